import Derived.Test.YtkhblganljemeaaNF
namespace Go.Proofs
open Go.GX
set_option linter.unusedVariables false
set_option linter.unusedSimpArgs false
/-! ## The stack, byte by byte -/
theorem Q21_eq (b : Bool) (n : Int) : Q21_0 (b, n, ()) = !b := by
  cases b
  · show decide (n = n) = true
    simp
  · rfl
theorem K21_eq (b : Bool) (n : Int) : K21 (b, n, ()) = b := by cases b <;> rfl
def szd (o n : Int) : Bool := (decide (n = 1) || (decide (n = 2) || (decide (n = 4) || decide (n = 8)))) && (decide (0 ≤ o) && decide (o ≤ 512 - n))
theorem szd_spec {o n : Int} (h : szd o n = true) : ∃ p k : Nat, o = (p : Int) ∧ n = (k : Int) ∧ p + k ≤ 512 ∧ (k = 1 ∨ k = 2 ∨ k = 4 ∨ k = 8) := by
  unfold szd at h
  simp only [Bool.and_eq_true, Bool.or_eq_true, decide_eq_true_eq] at h
  exact ⟨o.toNat, n.toNat, by omega, by omega, by omega, by omega⟩
theorem szd_of {p k : Nat} (h : p + k ≤ 512) (hk : k = 1 ∨ k = 2 ∨ k = 4 ∨ k = 8) : szd (p : Int) (k : Int) = true := by
  unfold szd
  simp only [Bool.and_eq_true, Bool.or_eq_true, decide_eq_true_eq]
  omega
theorem sz_any {o n : Int} {z : Option Bool} (h : z = (bif decide (n = 1) then (bif decide (o ≥ 0) then some (decide (o ≤ IntKind.wrap .i64 (512 - n))) else some false) else
    bif decide (n = 2) then (bif decide (o ≥ 0) then some (decide (o ≤ IntKind.wrap .i64 (512 - n))) else some false) else
    bif decide (n = 4) then (bif decide (o ≥ 0) then some (decide (o ≤ IntKind.wrap .i64 (512 - n))) else some false) else
    bif decide (n = 8) then (bif decide (o ≥ 0) then some (decide (o ≤ IntKind.wrap .i64 (512 - n))) else some false) else some false)) : z = some (szd o n) := by
  subst h
  unfold szd
  by_cases h1 : n = 1
  · subst h1
    rw [wi64 (by omega)]
    by_cases ho : 0 ≤ o <;> simp [ho]
  · by_cases h2 : n = 2
    · subst h2
      rw [wi64 (by omega)]
      by_cases ho : 0 ≤ o <;> simp [ho]
    · by_cases h4 : n = 4
      · subst h4
        rw [wi64 (by omega)]
        by_cases ho : 0 ≤ o <;> simp [ho]
      · by_cases h8 : n = 8
        · subst h8
          rw [wi64 (by omega)]
          by_cases ho : 0 ≤ o <;> simp [ho]
        · simp [h1, h2, h4, h8]
theorem F22_e (o n : Int) : F22 (o, n, ()) = szd o n ∧ G22 (o, n, ()) = true := ofE (sz_any (z := E22 (o, n, ())) rfl)
theorem F26_e (o n : Int) : F26 (o, n, ()) = szd o n ∧ G26 (o, n, ()) = true := ofE (sz_any (z := E26 (o, n, ())) rfl)
theorem low8 (p : Nat) : iand .i64 (p : Int) 7 = ((p % 8 : Nat) : Int) := by
  rw [iand_low .i64 (p : Int) 7 8 3 (by decide) (by decide) (by decide)]; omega
theorem div8 {p : Nat} (h : p ≤ 1024) : IntKind.wrap .i64 (Int.tdiv (p : Int) 8) = ((p / 8 : Nat) : Int) := by
  rw [Int.tdiv_eq_ediv_of_nonneg (by omega), wi64 (by omega)]; omega
theorem mod8 (p : Nat) : Int.tmod (p : Int) 8 = ((p % 8 : Nat) : Int) := by
  rw [Int.tmod_eq_emod_of_nonneg (by omega)]; omega
theorem wmod8 (p : Nat) : IntKind.wrap .u64 (Int.tmod (p : Int) 8) = ((p % 8 : Nat) : Int) := by
  rw [mod8, wu64 (by omega)]
theorem F23_e (p k : Nat) : F23 ((p : Int), (k : Int), ()) = (decide (k = 8) && decide (p % 8 = 0)) ∧ G23 ((p : Int), (k : Int), ()) = true := by
  refine ofE (y := decide (k = 8) && decide (p % 8 = 0)) ?_
  show S23 (p : Int) (k : Int) = _
  unfold S23
  rw [low8]
  by_cases h : k = 8
  · subst h
    by_cases h2 : p % 8 = 0
    · simp [h2]
    · rw [decide_eq_false (show ¬ ((p % 8 : Nat) : Int) = 0 by omega), decide_eq_false h2]; rfl
  · rw [decide_eq_false (show ¬ (k : Int) = 8 by omega), decide_eq_false h]; rfl
def hbit (k : Int) (i : Nat) : Int := iand .i64 (ishr .i64 k ((i % 8 : Nat) : Int)) 1
theorem hbit01 (k : Int) (i : Nat) : hbit k i = 0 ∨ hbit k i = 1 := by
  unfold hbit
  rw [iand_low .i64 _ 1 2 1 (by decide) (by decide) (by decide)]; omega
/-- a byte that may not be read, and why -/
def hld (x : Sl) (i : Nat) : Option Int := bif decide (x.1 = 2) then (bif decide (x.2.2.1.1 = 1) then none else some 63) else (bif decide (x.1 = 1) && decide (hbit x.2.1 i = 1) then none else some 60)
def outH : Option Int → Int ⊕ Unit
  | none => .inr ()
  | some c => .inl c
theorem E24_eq (s : KD6) {p : Nat} (h : p < 512) : E24 (s, (p : Int), ()) = some (outH (hld (s.2.1.getD (p / 8) dS) p)) := by
  show S24 V21 K21 Q21_0 s (p : Int) = _
  unfold S24
  rw [div8 (by omega), low8, Int.toNat_natCast, decide_eq_true (show p / 8 < 64 by omega), decide_eq_true (show (0 : Int) ≤ ((p / 8 : Nat) : Int) by omega), decide_eq_true (show ((p / 8 : Nat) : Int) < 64 by omega), decide_eq_true (show (0 : Int) ≤ ((p % 8 : Nat) : Int) by omega)]
  simp only [Q21_eq, K21_eq]
  unfold hld
  generalize s.2.1.getD (p / 8) dS = x
  show _ = some (outH (bif decide (x.1 = 2) then (bif decide (x.2.2.1.1 = 1) then none else some 63) else (bif decide (x.1 = 1) && decide (iand .i64 (ishr .i64 x.2.1 ((p % 8 : Nat) : Int)) 1 = 1) then none else some 60)))
  cases decide (x.1 = 2)
  · cases decide (x.1 = 1)
    · rfl
    · cases decide (iand .i64 (ishr .i64 x.2.1 ((p % 8 : Nat) : Int)) 1 = 1) <;> rfl
  · cases decide (x.2.2.1.1 = 1) <;> rfl
theorem P24_e (s : KD6) {p : Nat} (h : p < 512) : Q24_0 (s, (p : Int), ()) = decide (hld (s.2.1.getD (p / 8) dS) p = some 63) ∧ Q24_1 (s, (p : Int), ()) = decide (hld (s.2.1.getD (p / 8) dS) p = some 60) ∧ K24 (s, (p : Int), ()) = (hld (s.2.1.getD (p / 8) dS) p).isNone := by
  have e := E24_eq s h
  unfold Q24_0 Q24_1 K24 panQ panK
  rw [e]
  cases hld (s.2.1.getD (p / 8) dS) p with
  | none => exact ⟨rfl, rfl, rfl⟩
  | some c => exact ⟨by simp [outH], by simp [outH], rfl⟩
/-- the first that is told, out of so many from one on -/
def fstB (f : Nat → Option Int) : Nat → Nat → Option Int
  | _, 0 => none
  | o, n + 1 => match f o with | some c => some c | none => fstB f (o + 1) n
abbrev hl (s : KD6) (j : Nat) : Option Int := hld (s.2.1.getD (j / 8) dS) j
theorem hld_c {x : Sl} {i : Nat} {c : Int} (h : hld x i = some c) : c = 60 ∨ c = 63 := by
  unfold hld at h
  cases hx : decide (x.1 = 2) <;> rw [hx] at h <;> simp only [cond_true, cond_false] at h
  · cases hy : (decide (x.1 = 1) && decide (hbit x.2.1 i = 1)) <;> rw [hy] at h <;> simp only [cond_true, cond_false] at h
    · cases h; exact .inl rfl
    · cases h
  · cases hy : decide (x.2.2.1.1 = 1) <;> rw [hy] at h <;> simp only [cond_true, cond_false] at h
    · cases h; exact .inr rfl
    · cases h
abbrev A9 (o n i : Nat) (s : KD6) : XD hd9_0 := ((o : Int), (n : Int), (), (), (), (n : Int), (i : Int), s, dR, 0, ())
def w9 (n : Nat) : Option Int → YD ys9_0
  | none => .inl ((n : Int), (), (), dR, 0, ())
  | some c => bif decide (c = 63) then .inr (.inr ((), (), dR, 0, ())) else .inr (.inl ((), (), dR, 0, ()))
theorem V9_run {o n : Nat} {s : KD6} (h : o + n ≤ 512) : ∀ (k i : Nat), i + k = n → wh V9_0 (A9 o n i s) = some (w9 n (fstB (hl s) (o + i) k))
  | 0, i, hi => by
    have : i = n := by omega
    subst this
    refine wh_stop ?_
    show R9_0 _ _ _ _ _ _ _ _ _ _ _ _ _ _ _ (o : Int) (i : Int) () () () (i : Int) (i : Int) s dR 0 = _
    unfold R9_0
    rw [decide_eq_false (show ¬ (i : Int) < (i : Int) by omega)]
    rfl
  | k + 1, i, hi => by
    have e1 : IntKind.wrap .i64 ((o : Int) + (i : Int)) = ((o + i : Nat) : Int) := by rw [wi64 (by omega)]; omega
    have e2 : IntKind.wrap .i64 ((i : Int) + 1) = ((i + 1 : Nat) : Int) := by rw [wi64 (by omega)]; omega
    obtain ⟨q0, q1, k0⟩ := P24_e s (p := o + i) (by omega)
    have hV : V9_0 (A9 o n i s) = (bif decide (hl s (o + i) = some 63) then some (.inr (.inr (.inr ((), (), dR, 0, ())))) else bif decide (hl s (o + i) = some 60) then some (.inr (.inr (.inl ((), (), dR, 0, ())))) else bif tt 2 (hl s (o + i)).isNone then some (.inl (A9 o n (i + 1) s)) else none) := by
      show R9_0 _ _ _ _ _ _ _ _ _ _ _ _ _ _ _ (o : Int) (n : Int) () () () (n : Int) (i : Int) s dR 0 = _
      unfold R9_0
      rw [decide_eq_true (show (i : Int) < (n : Int) by omega), e1, e2, q0, q1, k0]
      rfl
    unfold fstB
    cases hh : hl s (o + i) with
    | some c =>
      rw [hh] at hV
      refine wh_stop (hV.trans ?_)
      rcases hld_c hh with rfl | rfl <;> rfl
    | none =>
      rw [hh] at hV
      refine (wh_next (hV.trans ?_)).trans (V9_run h k (i + 1) (by omega))
      rfl
end Go.Proofs
