import Derived.Test.YtfhpihomdnbgpaaNG
namespace Go.Proofs
open Go.GX
set_option linter.unusedVariables false
set_option linter.unusedSimpArgs false
theorem Q57_eq (b : Bool) (n : Int) : Q57_0 (b, n, ()) = !b := by
  cases b
  · show decide (n = n) = true
    simp
  · rfl
theorem K57_eq (b : Bool) (n : Int) : K57 (b, n, ()) = b := by cases b <;> rfl
theorem low8 (p : Nat) : iand .i64 (p : Int) 7 = ((p % 8 : Nat) : Int) := by
  rw [iand_low .i64 (p : Int) 7 8 3 (by decide) (by decide) (by decide)]; omega
theorem div8 {p : Nat} (h : p ≤ 1024) : IntKind.wrap .i64 (Int.tdiv (p : Int) 8) = ((p / 8 : Nat) : Int) := by
  rw [Int.tdiv_eq_ediv_of_nonneg (by omega), wi64 (by omega)]; omega
def hbit (k : Int) (i : Nat) : Int := iand .i64 (ishr .i64 k ((i % 8 : Nat) : Int)) 1
def hld (x : Sl) (i : Nat) : Option Int := bif decide (x.1 = 2) then (bif decide (x.2.2.1.1 = 1) then none else some 63) else (bif decide (x.1 = 1) && decide (hbit x.2.1 i = 1) then none else some 60)
def outH : Option Int → Int ⊕ Unit
  | none => .inr ()
  | some c => .inl c
theorem E67_eq (s : KD6) {p : Nat} (h : p < 512) : E67 (s, (p : Int), ()) = some (outH (hld (s.2.1.getD (p / 8) dS) p)) := by
  show S67 V57 K57 Q57_0 s (p : Int) = _
  unfold S67
  rw [div8 (by omega), low8, Int.toNat_natCast, decide_eq_true (show p / 8 < 64 by omega), decide_eq_true (show (0 : Int) ≤ ((p / 8 : Nat) : Int) by omega), decide_eq_true (show ((p / 8 : Nat) : Int) < 64 by omega), decide_eq_true (show (0 : Int) ≤ ((p % 8 : Nat) : Int) by omega)]
  simp only [Q57_eq, K57_eq]
  unfold hld
  generalize s.2.1.getD (p / 8) dS = x
  show _ = some (outH (bif decide (x.1 = 2) then (bif decide (x.2.2.1.1 = 1) then none else some 63) else (bif decide (x.1 = 1) && decide (iand .i64 (ishr .i64 x.2.1 ((p % 8 : Nat) : Int)) 1 = 1) then none else some 60)))
  cases decide (x.1 = 2)
  · cases decide (x.1 = 1)
    · rfl
    · cases decide (iand .i64 (ishr .i64 x.2.1 ((p % 8 : Nat) : Int)) 1 = 1) <;> rfl
  · cases decide (x.2.2.1.1 = 1) <;> rfl
theorem P24_e (s : KD6) {p : Nat} (h : p < 512) : Q67_0 (s, (p : Int), ()) = decide (hld (s.2.1.getD (p / 8) dS) p = some 63) ∧ Q67_1 (s, (p : Int), ()) = decide (hld (s.2.1.getD (p / 8) dS) p = some 60) ∧ K67 (s, (p : Int), ()) = (hld (s.2.1.getD (p / 8) dS) p).isNone := by
  have e := E67_eq s h
  unfold Q67_0 Q67_1 K67 panQ panK
  rw [e]
  cases hld (s.2.1.getD (p / 8) dS) p with
  | none => exact ⟨rfl, rfl, rfl⟩
  | some c => exact ⟨by simp [outH], by simp [outH], rfl⟩
abbrev hl (s : KD6) (j : Nat) : Option Int := hld (s.2.1.getD (j / 8) dS) j
theorem hld_c {x : Sl} {i : Nat} {c : Int} (h : hld x i = some c) : c = 60 ∨ c = 63 := by
  unfold hld at h
  cases hx : decide (x.1 = 2) <;> rw [hx] at h <;> simp only [cond_true, cond_false] at h
  · cases hy : (decide (x.1 = 1) && decide (hbit x.2.1 i = 1)) <;> rw [hy] at h <;> simp only [cond_true, cond_false] at h
    · cases h; exact .inl rfl
    · cases h
  · cases hy : decide (x.2.2.1.1 = 1) <;> rw [hy] at h <;> simp only [cond_true, cond_false] at h
    · cases h; exact .inr rfl
    · cases h
end Go.Proofs
