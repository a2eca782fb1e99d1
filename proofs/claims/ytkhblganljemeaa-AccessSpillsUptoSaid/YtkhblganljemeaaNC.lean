import Derived.Test.YtkhblganljemeaaNG
namespace Go.Proofs
open Go.GX
set_option linter.unusedVariables false
set_option linter.unusedSimpArgs false
/-! ## What is read -/
abbrev RE := Rg × (Int × Unit)
abbrev slt (s : KD6) (p : Nat) : Sl := s.2.1.getD (p / 8) dS
def whl (p k : Nat) : Bool := decide (k = 8) && decide (p % 8 = 0)
noncomputable def rdB (s : KD6) (p k : Nat) : RE := match fstB (hl s) p k with | none => (byR (k : Int), 0, ()) | some c => (dR, c, ())
noncomputable def stk (s : KD6) (p k : Nat) : RE := bif whl p k && decide ((slt s p).1 = 2) then ((slt s p).2.2.1, 0, ()) else rdB s p k
theorem fst_c {s : KD6} : ∀ {k p : Nat} {c : Int}, fstB (hl s) p k = some c → c = 60 ∨ c = 63
  | 0, p, c, h => by cases h
  | k + 1, p, c, h => by
    unfold fstB at h
    cases hh : hl s p with
    | none => rw [hh] at h; exact fst_c h
    | some d => rw [hh] at h; cases h; exact hld_c hh
theorem byG_of {k : Nat} (hk : k = 1 ∨ k = 2 ∨ k = 4 ∨ k = 8) : byG (k : Int) = true := by
  rcases hk with rfl | rfl | rfl | rfl <;> rfl
theorem E9_bad {s : KD6} {o n : Int} (h : szd o n = false) : E9 (s, o, n, ()) = some (dR, 62, ()) := by
  show S9 F22 G22 F23 G23 F25 G25 V21 K21 Q21_0 V24 K24 Q24_0 Q24_1 W9_0 Q9_0 s o n = _
  unfold S9
  rw [(F22_e o n).1, (F22_e o n).2, h]
  simp only [Q21_eq]
  rfl
theorem E9_eq {s : KD6} {p k : Nat} (h : p + k ≤ 512) (hk : k = 1 ∨ k = 2 ∨ k = 4 ∨ k = 8) : E9 (s, (p : Int), (k : Int), ()) = some (stk s p k) := by
  have hrun := V9_run (o := p) (n := k) (s := s) h k 0 (by omega)
  have ew : W9_0 ((p : Int), (k : Int), (), (), (), (k : Int), 0, s, dR, 0, ()) = w9 k (fstB (hl s) p k) := whV_of hrun
  have eq : Q9_0 ((p : Int), (k : Int), (), (), (), (k : Int), 0, s, dR, 0, ()) = true := whK_of hrun
  show S9 F22 G22 F23 G23 F25 G25 V21 K21 Q21_0 V24 K24 Q24_0 Q24_1 W9_0 Q9_0 s (p : Int) (k : Int) = _
  unfold S9
  rw [(F22_e _ _).1, (F22_e _ _).2, (F23_e p k).1, (F23_e p k).2, szd_of h hk, ew, eq, div8 (by omega), Int.toNat_natCast, decide_eq_true (show p / 8 < 64 by omega), decide_eq_true (show (0 : Int) ≤ ((p / 8 : Nat) : Int) by omega), decide_eq_true (show ((p / 8 : Nat) : Int) < 64 by omega)]
  simp only [Q21_eq, K21_eq]
  unfold stk whl rdB
  have hg : G25 ((k : Int), ()) = true := byG_of hk
  cases decide (k = 8) && decide (p % 8 = 0)
  · cases hf : fstB (hl s) p k with
    | none =>
      show (bif G25 ((k : Int), ()) && _ then some (F25 ((k : Int), ()), 0, ()) else none) = _
      rw [hg]; rfl
    | some c => rcases fst_c hf with rfl | rfl <;> rfl
  · cases hs : decide ((slt s p).1 = 2)
    · have hs : decide ((s.2.1.getD (p / 8) dS).1 = 2) = false := hs
      try rw [hs]
      cases hf : fstB (hl s) p k with
      | none =>
        show (bif G25 ((k : Int), ()) && _ then some (F25 ((k : Int), ()), 0, ()) else none) = _
        rw [hg]; rfl
      | some c => rcases fst_c hf with rfl | rfl <;> rfl
    · have hs : decide ((s.2.1.getD (p / 8) dS).1 = 2) = true := hs
      first | rfl | (rw [hs]; rfl)
/-! the document's -/
abbrev A10 (p k i : Nat) (s : KD6) : XD hd10_0 := ((p : Int), (k : Int), (), (), ((p + i : Nat) : Int), s, dR, ())
def w10 (k : Nat) : Option Int → YD ys10_0
  | none => .inl ((k : Int), (), dR, ())
  | some c => .inr ((), c, dR, ())
theorem V10_run {p n : Nat} {s : KD6} (h : p + n ≤ 512) : ∀ (k i : Nat), i + k = n → wh V10_0 (A10 p n i s) = some (w10 n (fstB (hl s) (p + i) k))
  | 0, i, hi => by
    have : i = n := by omega
    subst this
    refine wh_stop ?_
    show R10_0 _ _ _ _ _ _ (p : Int) (i : Int) () () ((p + i : Nat) : Int) s dR = _
    unfold R10_0
    rw [show IntKind.wrap .i64 ((p : Int) + (i : Int)) = ((p + i : Nat) : Int) by rw [wi64 (by omega)]; omega, decide_eq_false (Int.lt_irrefl _)]
    rfl
  | k + 1, i, hi => by
    have hV : V10_0 (A10 p n i s) = some (match hl s (p + i) with | some c => .inr (.inr ((), c, dR, ())) | none => .inl (A10 p n (i + 1) s)) := by
      show R10_0 _ _ _ _ _ _ (p : Int) (n : Int) () () ((p + i : Nat) : Int) s dR = _
      unfold R10_0
      rw [show IntKind.wrap .i64 ((p : Int) + (n : Int)) = ((p + n : Nat) : Int) by rw [wi64 (by omega)]; omega, show IntKind.wrap .i64 (((p + i : Nat) : Int) + 1) = ((p + (i + 1) : Nat) : Int) by rw [wi64 (by omega)]; omega,
        div8 (show p + i ≤ 1024 by omega), wmod8, Int.toNat_natCast, decide_eq_true (show ((p + i : Nat) : Int) < ((p + n : Nat) : Int) by omega), decide_eq_true (show (p + i) / 8 < 64 by omega), decide_eq_true (show (0 : Int) ≤ (((p + i) / 8 : Nat) : Int) by omega), decide_eq_true (show (((p + i) / 8 : Nat) : Int) < 64 by omega), decide_eq_true (show (0 : Int) ≤ (((p + i) % 8 : Nat) : Int) by omega)]
      show _ = some (match hld (s.2.1.getD ((p + i) / 8) dS) (p + i) with | some c => Sum.inr (Sum.inr ((), c, dR, ())) | none => Sum.inl (A10 p n (i + 1) s))
      generalize s.2.1.getD ((p + i) / 8) dS = x
      show (bif true then _ else _) = _
      have hb : ∀ {α : Type} (a b : α), (bif decide (iand .i64 (ishr .i64 x.2.1 (((p + i) % 8 : Nat) : Int)) 1 = 0) then a else b) = bif decide (hbit x.2.1 (p + i) = 1) then b else a := by
        intro α a b
        show (bif decide (hbit x.2.1 (p + i) = 0) then a else b) = _
        rcases hbit01 x.2.1 (p + i) with e | e <;> rw [e] <;> rfl
      rw [hb]
      unfold hld
      cases decide (x.1 = 2)
      · cases decide (x.1 = 1)
        · rfl
        · cases decide (hbit x.2.1 (p + i) = 1) <;> rfl
      · cases decide (x.2.2.1.1 = 1) <;> rfl
    unfold fstB
    cases hh : hl s (p + i) with
    | some c => rw [hh] at hV; exact wh_stop hV
    | none => rw [hh] at hV; exact (wh_next hV).trans (V10_run h k (i + 1) (by omega))
theorem E10_bad {s : KD6} {o n : Int} (h : szd o n = false) : E10 (s, o, n, ()) = some (dR, 62, ()) := by
  show S10 F26 G26 F27 G27 W10_0 Q10_0 s o n = _
  unfold S10
  rw [(F26_e o n).1, (F26_e o n).2, h]
  rfl
theorem E10_eq {s : KD6} {p k : Nat} (h : p + k ≤ 512) (hk : k = 1 ∨ k = 2 ∨ k = 4 ∨ k = 8) : E10 (s, (p : Int), (k : Int), ()) = some (stk s p k) := by
  have hrun := V10_run (p := p) (n := k) (s := s) h k 0 (by omega)
  have ew : W10_0 ((p : Int), (k : Int), (), (), (p : Int), s, dR, ()) = w10 k (fstB (hl s) p k) := whV_of hrun
  have eq : Q10_0 ((p : Int), (k : Int), (), (), (p : Int), s, dR, ()) = true := whK_of hrun
  show S10 F26 G26 F27 G27 W10_0 Q10_0 s (p : Int) (k : Int) = _
  unfold S10
  rw [(F26_e _ _).1, (F26_e _ _).2, szd_of h hk, ew, eq, div8 (by omega), mod8, Int.toNat_natCast, decide_eq_true (show p / 8 < 64 by omega), decide_eq_true (show (0 : Int) ≤ ((p / 8 : Nat) : Int) by omega), decide_eq_true (show ((p / 8 : Nat) : Int) < 64 by omega)]
  have hg : G27 ((k : Int), ()) = true := byG_of hk
  unfold stk whl rdB
  have e8 : decide ((k : Int) = 8) = decide (k = 8) := by by_cases c : k = 8 <;> simp [c] <;> omega
  have e0 : decide (((p % 8 : Nat) : Int) = 0) = decide (p % 8 = 0) := by by_cases c : p % 8 = 0 <;> simp [c] <;> omega
  rw [e8, e0]
  have tl : ∀ z : Bool, z = true → (bif isL (w10 k (fstB (hl s) p k)) then (bif G27 ((getL ((0, (), dR, ()) : (Int × Unit × Rg × Unit)) (w10 k (fstB (hl s) p k))).1, ()) && z then some (F27 ((getL ((0, (), dR, ()) : (Int × Unit × Rg × Unit)) (w10 k (fstB (hl s) p k))).1, ()), 0, ()) else none) else
      (bif z then some ((getR (((), 0, dR, ()) : (Unit × Int × Rg × Unit)) (w10 k (fstB (hl s) p k))).2.2.1, (getR (((), 0, dR, ()) : (Unit × Int × Rg × Unit)) (w10 k (fstB (hl s) p k))).2.1, ()) else none)) = some (match fstB (hl s) p k with | none => (byR (k : Int), 0, ()) | some c => (dR, c, ())) := by
    intro z hz
    subst hz
    cases fstB (hl s) p k with
    | none =>
      show (bif G27 ((k : Int), ()) && true then some (F27 ((k : Int), ()), 0, ()) else none) = _
      rw [hg]; rfl
    | some c => rfl
  cases decide (k = 8)
  · exact tl _ rfl
  · cases decide (p % 8 = 0)
    · exact tl _ rfl
    · cases hs : decide ((s.2.1.getD (p / 8) dS).1 = 2)
      · have hs2 : decide ((slt s p).1 = 2) = false := hs
        try rw [hs2]
        exact tl _ rfl
      · have hs2 : decide ((slt s p).1 = 2) = true := hs
        first | rfl | (rw [hs2]; rfl)
theorem F9_F10 (s : KD6) (o n : Int) : F9 (s, o, n, ()) = F10 (s, o, n, ()) ∧ G9 (s, o, n, ()) = true ∧ G10 (s, o, n, ()) = true := by
  cases hz : szd o n
  · obtain ⟨a1, a2⟩ : F9 (s, o, n, ()) = _ ∧ G9 (s, o, n, ()) = true := ofE (E9_bad hz)
    obtain ⟨b1, b2⟩ : F10 (s, o, n, ()) = _ ∧ G10 (s, o, n, ()) = true := ofE (E10_bad hz)
    exact ⟨a1.trans b1.symm, a2, b2⟩
  · obtain ⟨p, k, rfl, rfl, h1, h2⟩ := szd_spec hz
    obtain ⟨a1, a2⟩ : F9 (s, (p : Int), (k : Int), ()) = _ ∧ G9 (s, (p : Int), (k : Int), ()) = true := ofE (E9_eq h1 h2)
    obtain ⟨b1, b2⟩ : F10 (s, (p : Int), (k : Int), ()) = _ ∧ G10 (s, (p : Int), (k : Int), ()) = true := ofE (E10_eq h1 h2)
    exact ⟨a1.trans b1.symm, a2, b2⟩
end Go.Proofs
