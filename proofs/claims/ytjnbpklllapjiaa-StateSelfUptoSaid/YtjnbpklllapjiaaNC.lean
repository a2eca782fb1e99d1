import Derived.Test.YtjnbpklllapjiaaNB
namespace Go.Proofs
open Go.GX
set_option linter.unusedVariables false
set_option linter.unusedSimpArgs false
/-! ## Registers and slots -/
abbrev Rg := Int × (Sc × (Int × (Int × (Int × Unit))))
abbrev Sl := Int × (Int × (Rg × Unit))
def held (k : Int) : Bool := decide (k = 8) || (decide (k = 9) || decide (k = 10))
/-- all but the ids -/
def alike (a b : Rg) : Bool := decide (a.1 = b.1) && (decide (a.2.2.1 = b.2.2.1) && (decide (a.2.2.2.2.1 = b.2.2.2.2.1) && inS a.2.1 b.2.1))
def cv (a b : Rg) (P : PL) : Bool × PL := bif decide (a.1 = 0) then (true, P) else bif alike a b then (bif held a.1 then tgo P a.2.2.2.1 b.2.2.2.1 else (true, P)) else (false, P)
theorem ND_cv {P : PL} (h : ND P) (a b : Rg) : ND (cv a b P).2 := by
  unfold cv
  cases decide (a.1 = 0)
  · cases alike a b
    · exact h
    · cases held a.1
      · exact h
      · exact ND_tgo h _ _
  · exact h
theorem cv_len (a b : Rg) (P : PL) : (cv a b P).2.length ≤ P.length + 1 := by
  unfold cv
  cases decide (a.1 = 0)
  · cases alike a b
    · exact Nat.le_succ _
    · cases held a.1
      · exact Nat.le_succ _
      · exact tgo_len ..
  · exact Nat.le_succ _
theorem E27_eq {P : PL} (hP : ND P) (a b : Rg) : E27 (pr P) (a, b, ()) = some ((cv a b P).1, pr (cv a b P).2) := by
  show S27 F30 H30 G30 F48 G48 (row (·.1) (·.2) P, (row (·.2) (·.1) P, ())) a b = _
  unfold S27 cv alike held
  dsimp only
  simp only [F30_e hP, F48_eq]
  cases decide (a.1 = 0)
  · cases decide (a.1 = b.1)
    · rfl
    · cases decide (a.2.2.1 = b.2.2.1)
      · rfl
      · cases decide (a.2.2.2.2.1 = b.2.2.2.2.1)
        · rfl
        · cases inS a.2.1 b.2.1
          · rfl
          · cases decide (a.1 = 8)
            · cases decide (a.1 = 9)
              · cases decide (a.1 = 10) <;> rfl
              · rfl
            · rfl
  · rfl
theorem E31_eq {P : PL} (hl : P.length ≤ 2097152) (a b : Rg) (ha : InR a.2.1.1.2.1) : E31 (tb P) (a, b, ()) = some ((cv a b P).1, tb (cv a b P).2) := by
  show S31 F33 H33 G33 F49 G49 (P.map (·.1), (P.map (·.2), ())) a b = _
  unfold S31 cv alike held
  have l1 : (P.map (·.1)).length = P.length := List.length_map ..
  have l2 : (P.map (·.2)).length = P.length := List.length_map ..
  have p1 : sec 0 (P.map (·.1)) 0 P.length = P.map (·.1) := sec_full l1
  have p2 : sec 0 (P.map (·.2)) 0 P.length = P.map (·.2) := sec_full l2
  have t1 : ∀ Q : PL, sec 0 (Q.map (·.1)) 0 Q.length = Q.map (·.1) := fun Q => sec_full (List.length_map ..)
  have t2 : ∀ Q : PL, sec 0 (Q.map (·.2)) 0 Q.length = Q.map (·.2) := fun Q => sec_full (List.length_map ..)
  dsimp only
  simp only [l1, l2, p1, p2, F33_e hl, F49_eq a.2.1 b.2.1 ha, tb, List.length_map, t1, t2, le00]
  cases decide (a.1 = 0)
  · cases decide (a.1 = b.1)
    · rfl
    · cases decide (a.2.2.1 = b.2.2.1)
      · rfl
      · cases decide (a.2.2.2.2.1 = b.2.2.2.2.1)
        · rfl
        · cases inS a.2.1 b.2.1
          · rfl
          · cases decide (a.1 = 8)
            · cases decide (a.1 = 9)
              · cases decide (a.1 = 10) <;> rfl
              · rfl
            · rfl
  · rfl
theorem F27_e {P : PL} (hP : ND P) (a b : Rg) : F27 (row (·.1) (·.2) P, (row (·.2) (·.1) P, ())) (a, b, ()) = (cv a b P).1 ∧ H27 (row (·.1) (·.2) P, (row (·.2) (·.1) P, ())) (a, b, ()) = pr (cv a b P).2 ∧ G27 (row (·.1) (·.2) P, (row (·.2) (·.1) P, ())) (a, b, ()) = true := by
  have h := E27_eq hP a b
  refine ⟨?_, ?_, by show (E27 (pr P) (a, b, ())).isSome = true; rw [h]; rfl⟩
  · show ((E27 (pr P) (a, b, ())).getD _).1 = _; rw [h]; rfl
  · show ((E27 (pr P) (a, b, ())).getD _).2 = _; rw [h]; rfl
theorem F31_e {P : PL} (hl : P.length ≤ 2097152) (a b : Rg) (ha : InR a.2.1.1.2.1) : F31 (P.map (·.1), (P.map (·.2), ())) (a, b, ()) = (cv a b P).1 ∧ H31 (P.map (·.1), (P.map (·.2), ())) (a, b, ()) = tb (cv a b P).2 ∧ G31 (P.map (·.1), (P.map (·.2), ())) (a, b, ()) = true := by
  have h := E31_eq hl a b ha
  refine ⟨?_, ?_, by show (E31 (tb P) (a, b, ())).isSome = true; rw [h]; rfl⟩
  · show ((E31 (tb P) (a, b, ())).getD _).1 = _; rw [h]; rfl
  · show ((E31 (tb P) (a, b, ())).getD _).2 = _; rw [h]; rfl
/-! ### Slots -/
def miscB (a b : Sl) : Bool := decide (a.2.1 = 0) || ((decide (b.1 = 2) && decide (b.2.2.1.1 = 1)) || (decide (b.1 = 1) && decide (ior .i64 a.2.1 b.2.1 = b.2.1)))
def sv (a b : Sl) (P : PL) : Bool × PL := bif decide (a.1 = 0) then (true, P) else bif decide (a.1 = 1) then (miscB a b, P) else bif decide (b.1 = 2) then cv a.2.2.1 b.2.2.1 P else (false, P)
theorem ND_sv {P : PL} (h : ND P) (a b : Sl) : ND (sv a b P).2 := by
  unfold sv
  cases decide (a.1 = 0)
  · cases decide (a.1 = 1)
    · cases decide (b.1 = 2)
      · exact h
      · exact ND_cv h _ _
    · exact h
  · exact h
theorem sv_len (a b : Sl) (P : PL) : (sv a b P).2.length ≤ P.length + 1 := by
  unfold sv
  cases decide (a.1 = 0)
  · cases decide (a.1 = 1)
    · cases decide (b.1 = 2)
      · exact Nat.le_succ _
      · exact cv_len ..
    · exact Nat.le_succ _
  · exact Nat.le_succ _
theorem E28_eq {P : PL} (hP : ND P) (a b : Sl) : E28 (pr P) (a, b, ()) = some ((sv a b P).1, pr (sv a b P).2) := by
  show S28 F27 H27 G27 (row (·.1) (·.2) P, (row (·.2) (·.1) P, ())) a b = _
  unfold S28 sv miscB
  dsimp only
  simp only [F27_e hP]
  cases h0 : decide (a.1 = 0)
  · cases decide (a.1 = 1)
    · cases decide (b.1 = 2) <;> rfl
    · cases decide (b.1 = 2)
      · cases decide (a.2.1 = 0) <;> cases decide (b.1 = 1) <;> rfl
      · cases decide (a.2.1 = 0)
        · cases decide (b.2.2.1.1 = 1) <;> cases decide (b.1 = 1) <;> rfl
        · rfl
  · generalize (true && _) = g
    cases g <;> rfl
theorem bv_or_andn {X Y : BitVec 64} : (X &&& ~~~Y = 0#64) ↔ (X ||| Y = Y) := by
  constructor
  · intro h
    apply BitVec.eq_of_getLsbD_eq
    intro i hi
    have := congrArg (fun z => z.getLsbD i) h
    simp only [BitVec.getLsbD_and, BitVec.getLsbD_not, BitVec.getLsbD_or, BitVec.getLsbD_zero] at this ⊢
    revert this
    simp only [hi, decide_true, Bool.true_and]
    cases X.getLsbD i <;> cases Y.getLsbD i <;> simp
  · intro h
    apply BitVec.eq_of_getLsbD_eq
    intro i hi
    have := congrArg (fun z => z.getLsbD i) h
    simp only [BitVec.getLsbD_and, BitVec.getLsbD_not, BitVec.getLsbD_or, BitVec.getLsbD_zero] at this ⊢
    revert this
    simp only [hi, decide_true, Bool.true_and]
    cases X.getLsbD i <;> cases Y.getLsbD i <;> simp
theorem or_andn {x y : Int} (hx : 0 ≤ x ∧ x ≤ 255) (hy : 0 ≤ y ∧ y ≤ 255) : decide (iandn .i64 x y = 0) = decide (ior .i64 x y = y) := by
  have ex : (BitVec.ofInt 64 x).toNat = x.toNat := by rw [BitVec.toNat_ofInt]; omega
  have ey : (BitVec.ofInt 64 y).toNat = y.toNat := by rw [BitVec.toNat_ofInt]; omega
  have h1 : iandn .i64 x y = (((BitVec.ofInt 64 x &&& ~~~BitVec.ofInt 64 y).toNat : Nat) : Int) := by
    have hle : (BitVec.ofInt 64 x &&& ~~~BitVec.ofInt 64 y).toNat ≤ x.toNat := by rw [BitVec.toNat_and, ← ex]; exact Nat.and_le_left
    show IntKind.wrap .i64 (((BitVec.ofInt 64 x &&& ~~~BitVec.ofInt 64 y).toNat : Nat) : Int) = _
    rw [wi64 (by omega)]
  have h2 : ior .i64 x y = (((BitVec.ofInt 64 x ||| BitVec.ofInt 64 y).toNat : Nat) : Int) := by
    have hle : (BitVec.ofInt 64 x ||| BitVec.ofInt 64 y).toNat < 2 ^ 8 := by
      rw [BitVec.toNat_or, ex, ey]; exact Nat.or_lt_two_pow (by omega) (by omega)
    show IntKind.wrap .i64 (((BitVec.ofInt 64 x ||| BitVec.ofInt 64 y).toNat : Nat) : Int) = _
    rw [wi64 (by omega)]
  rw [h1, h2, decide_eq_decide]
  have k1 : (((BitVec.ofInt 64 x &&& ~~~BitVec.ofInt 64 y).toNat : Nat) : Int) = 0 ↔ BitVec.ofInt 64 x &&& ~~~BitVec.ofInt 64 y = 0#64 := by
    rw [← BitVec.toNat_inj]; simp only [BitVec.toNat_ofNat]; omega
  have k2 : (((BitVec.ofInt 64 x ||| BitVec.ofInt 64 y).toNat : Nat) : Int) = y ↔ BitVec.ofInt 64 x ||| BitVec.ofInt 64 y = BitVec.ofInt 64 y := by
    rw [← BitVec.toNat_inj, ey]; omega
  rw [k1, k2]
  exact bv_or_andn
/-- what is sane about a slot, as far as it matters here -/
def okSl (x : Sl) : Prop := (0 ≤ x.2.1 ∧ x.2.1 ≤ 255) ∧ InR x.2.2.1.2.1.1.2.1
theorem E32_eq {P : PL} (hl : P.length ≤ 2097152) (a b : Sl) (ha : okSl a) (hb : okSl b) : E32 (tb P) (a, b, ()) = some ((sv a b P).1, tb (sv a b P).2) := by
  show S32 F31 H31 G31 (P.map (·.1), (P.map (·.2), ())) a b = _
  unfold S32 sv miscB
  have l1 : (P.map (·.1)).length = P.length := List.length_map ..
  have l2 : (P.map (·.2)).length = P.length := List.length_map ..
  have p1 : sec 0 (P.map (·.1)) 0 P.length = P.map (·.1) := sec_full l1
  have p2 : sec 0 (P.map (·.2)) 0 P.length = P.map (·.2) := sec_full l2
  have t1 : ∀ Q : PL, sec 0 (Q.map (·.1)) 0 Q.length = Q.map (·.1) := fun Q => sec_full (List.length_map ..)
  have t2 : ∀ Q : PL, sec 0 (Q.map (·.2)) 0 Q.length = Q.map (·.2) := fun Q => sec_full (List.length_map ..)
  dsimp only
  rw [or_andn ha.1 hb.1]
  simp only [l1, l2, p1, p2, F31_e hl a.2.2.1 b.2.2.1 ha.2, tb, List.length_map, t1, t2, le00]
  cases decide (a.1 = 0)
  · by_cases h1 : a.1 = 1
    · rw [decide_eq_true h1]
      cases decide (a.2.1 = 0)
      · by_cases hb1 : b.1 = 1
        · rw [decide_eq_true hb1, decide_eq_false (show ¬ b.1 = 2 by omega)]
          cases decide (ior .i64 a.2.1 b.2.1 = b.2.1) <;> rfl
        · rw [decide_eq_false hb1]
          cases decide (b.1 = 2)
          · rfl
          · cases decide (b.2.2.1.1 = 1) <;> rfl
      · rfl
    · rw [decide_eq_false h1]
      cases decide (b.1 = 2) <;> rfl
  · rfl
theorem F28_e {P : PL} (hP : ND P) (a b : Sl) : F28 (row (·.1) (·.2) P, (row (·.2) (·.1) P, ())) (a, b, ()) = (sv a b P).1 ∧ H28 (row (·.1) (·.2) P, (row (·.2) (·.1) P, ())) (a, b, ()) = pr (sv a b P).2 ∧ G28 (row (·.1) (·.2) P, (row (·.2) (·.1) P, ())) (a, b, ()) = true := by
  have h := E28_eq hP a b
  refine ⟨?_, ?_, by show (E28 (pr P) (a, b, ())).isSome = true; rw [h]; rfl⟩
  · show ((E28 (pr P) (a, b, ())).getD _).1 = _; rw [h]; rfl
  · show ((E28 (pr P) (a, b, ())).getD _).2 = _; rw [h]; rfl
theorem F32_e {P : PL} (hl : P.length ≤ 2097152) (a b : Sl) (ha : okSl a) (hb : okSl b) : F32 (P.map (·.1), (P.map (·.2), ())) (a, b, ()) = (sv a b P).1 ∧ H32 (P.map (·.1), (P.map (·.2), ())) (a, b, ()) = tb (sv a b P).2 ∧ G32 (P.map (·.1), (P.map (·.2), ())) (a, b, ()) = true := by
  have h := E32_eq hl a b ha hb
  refine ⟨?_, ?_, by show (E32 (tb P) (a, b, ())).isSome = true; rw [h]; rfl⟩
  · show ((E32 (tb P) (a, b, ())).getD _).1 = _; rw [h]; rfl
  · show ((E32 (tb P) (a, b, ())).getD _).2 = _; rw [h]; rfl
end Go.Proofs
