import Derived.Test.YtfhpihomdnbgpaaNG
namespace Go.Proofs
open Go.GX
set_option linter.unusedVariables false
set_option linter.unusedSimpArgs false
theorem Q57_eq (b : Bool) (n : Int) : Q57_0 (b, n, ()) = !b := by
 cases b
 ·show decide (n = n) = true
  simp
 ·rfl
theorem K57_eq (b : Bool) (n : Int) : K57 (b, n, ()) = b := by cases b <;> rfl
def szd (o n : Int) : Bool := (decide (n = 1) || (decide (n = 2) || (decide (n = 4) || decide (n = 8)))) && (decide (0 ≤ o) && decide (o ≤ 512 - n))
theorem szd_of {p k : Nat} (h : p + k ≤ 512) (hk : k = 1 ∨ k = 2 ∨ k = 4 ∨ k = 8) : szd (p : Int) (k : Int) = true := by
 unfold szd
 simp only [Bool.and_eq_true, Bool.or_eq_true, decide_eq_true_eq]
 omega
theorem sz_any {o n : Int} {z : Option Bool} (h : z = (bif decide (n = 1) then (bif decide (o ≥ 0) then some (decide (o ≤ IntKind.wrap .i64 (512 - n))) else some false) else
 bif decide (n = 2) then (bif decide (o ≥ 0) then some (decide (o ≤ IntKind.wrap .i64 (512 - n))) else some false) else
 bif decide (n = 4) then (bif decide (o ≥ 0) then some (decide (o ≤ IntKind.wrap .i64 (512 - n))) else some false) else
 bif decide (n = 8) then (bif decide (o ≥ 0) then some (decide (o ≤ IntKind.wrap .i64 (512 - n))) else some false) else some false)) : z = some (szd o n) := by
 subst h
 unfold szd
 by_cases h1 : n = 1
 ·subst h1
  rw [wi64 (by omega)]
  by_cases ho : 0 ≤ o <;> simp [ho]
 ·by_cases h2 : n = 2
  ·subst h2
   rw [wi64 (by omega)]
   by_cases ho : 0 ≤ o <;> simp [ho]
  ·by_cases h4 : n = 4
   ·subst h4
    rw [wi64 (by omega)]
    by_cases ho : 0 ≤ o <;> simp [ho]
   ·by_cases h8 : n = 8
    ·subst h8
     rw [wi64 (by omega)]
     by_cases ho : 0 ≤ o <;> simp [ho]
    ·simp [h1, h2, h4, h8]
theorem F58_e (o n : Int) : F58 (o, n, ()) = szd o n ∧ G58 (o, n, ()) = true := ofE (sz_any (z := E58 (o, n, ())) rfl)
theorem low8 (p : Nat) : iand .i64 (p : Int) 7 = ((p % 8 : Nat) : Int) := by
 rw [iand_low .i64 (p : Int) 7 8 3 (by decide) (by decide) (by decide)]; omega
theorem div8 {p : Nat} (h : p ≤ 1024) : IntKind.wrap .i64 (Int.tdiv (p : Int) 8) = ((p / 8 : Nat) : Int) := by
 rw [Int.tdiv_eq_ediv_of_nonneg (by omega), wi64 (by omega)]; omega
theorem F59_e (p k : Nat) : F59 ((p : Int), (k : Int), ()) = (decide (k = 8) && decide (p % 8 = 0)) ∧ G59 ((p : Int), (k : Int), ()) = true := by
 refine ofE (y := decide (k = 8) && decide (p % 8 = 0)) ?_
 show S59 (p : Int) (k : Int) = _
 unfold S59
 rw [low8]
 by_cases h : k = 8
 ·subst h
  by_cases h2 : p % 8 = 0
  ·simp [h2]
  ·rw [decide_eq_false (show ¬ ((p % 8 : Nat) : Int) = 0 by omega), decide_eq_false h2]; rfl
 ·rw [decide_eq_false (show ¬ (k : Int) = 8 by omega), decide_eq_false h]; rfl
def hbit (k : Int) (i : Nat) : Int := iand .i64 (ishr .i64 k ((i % 8 : Nat) : Int)) 1
def hld (x : Sl) (i : Nat) : Option Int := bif decide (x.1 = 2) then (bif decide (x.2.2.1.1 = 1) then none else some 63) else (bif decide (x.1 = 1) && decide (hbit x.2.1 i = 1) then none else some 60)
def outH : Option Int → Int ⊕ Unit
 | none => .inr ()
 | some c => .inl c
theorem E67_eq (s : KD6) {p : Nat} (h : p < 512) : E67 (s, (p : Int), ()) = some (outH (hld (s.2.1.getD (p / 8) dS) p)) := by
 show S67 V57 K57 Q57_0 s (p : Int) = _
 unfold S67
 rw [div8 (by omega), low8, Int.toNat_natCast, decide_eq_true (show p / 8 < 64 by omega), decide_eq_true (show (0 : Int) ≤ ((p / 8 : Nat) : Int) by omega), decide_eq_true (show ((p / 8 : Nat) : Int) < 64 by omega), decide_eq_true (show (0 : Int) ≤ ((p % 8 : Nat) : Int) by omega)]
 simp only [Q57_eq, K57_eq]
 unfold hld
 generalize s.2.1.getD (p / 8) dS = x
 show _ = some (outH (bif decide (x.1 = 2) then (bif decide (x.2.2.1.1 = 1) then none else some 63) else (bif decide (x.1 = 1) && decide (iand .i64 (ishr .i64 x.2.1 ((p % 8 : Nat) : Int)) 1 = 1) then none else some 60)))
 cases decide (x.1 = 2)
 ·cases decide (x.1 = 1)
  ·rfl
  ·cases decide (iand .i64 (ishr .i64 x.2.1 ((p % 8 : Nat) : Int)) 1 = 1) <;> rfl
 ·cases decide (x.2.2.1.1 = 1) <;> rfl
theorem P24_e (s : KD6) {p : Nat} (h : p < 512) : Q67_0 (s, (p : Int), ()) = decide (hld (s.2.1.getD (p / 8) dS) p = some 63) ∧ Q67_1 (s, (p : Int), ()) = decide (hld (s.2.1.getD (p / 8) dS) p = some 60) ∧ K67 (s, (p : Int), ()) = (hld (s.2.1.getD (p / 8) dS) p).isNone := by
 have e := E67_eq s h
 unfold Q67_0 Q67_1 K67 panQ panK
 rw [e]
 cases hld (s.2.1.getD (p / 8) dS) p with
 | none => exact ⟨rfl, rfl, rfl⟩
 | some c => exact ⟨by simp [outH], by simp [outH], rfl⟩
abbrev hl (s : KD6) (j : Nat) : Option Int := hld (s.2.1.getD (j / 8) dS) j
theorem hld_c {x : Sl} {i : Nat} {c : Int} (h : hld x i = some c) : c = 60 ∨ c = 63 := by
 unfold hld at h
 cases hx : decide (x.1 = 2) <;> rw [hx] at h <;> simp only [cond_true, cond_false] at h
 ·cases hy : (decide (x.1 = 1) && decide (hbit x.2.1 i = 1)) <;> rw [hy] at h <;> simp only [cond_true, cond_false] at h
  ·cases h; exact .inl rfl
  ·cases h
 ·cases hy : decide (x.2.2.1.1 = 1) <;> rw [hy] at h <;> simp only [cond_true, cond_false] at h
  ·cases h; exact .inr rfl
  ·cases h
end Go.Proofs
