import Derived.Test.YteidebhnjkbbeaaZC
namespace Go.Proofs
open Go.GX
set_option linter.unusedVariables false
set_option linter.unusedSimpArgs false
theorem and63' (k : Nat) (h : k < 64) : iand .u64 (k : Int) 63 = k := by
  have := and_mask (k : Int) 6 (by omega)
  rw [show (((2 ^ 6 - 1 : Nat)) : Int) = 63 from rfl, show (((2 ^ 6 : Nat)) : Int) = 64 from rfl] at this
  rw [this]; omega
theorem and31' (k : Nat) (h : k < 32) : iand .u64 (iand .u64 (k : Int) 4294967295) 31 = k := by
  have := and_mask (iand .u64 (k : Int) 4294967295) 5 (by omega)
  rw [show (((2 ^ 5 - 1 : Nat)) : Int) = 31 from rfl, show (((2 ^ 5 : Nat)) : Int) = 32 from rfl] at this
  rw [this, and_lo]; omega
theorem ab_eq (op : Int) (w : Bool) (z : Int) (k : Nat) (hk : k < (if w then 64 else 32)) (hop : op = 96 ∨ op = 112 ∨ op = 192) : fAb op w z (k : Int) = (fSh op z (k : Int) w, 0, ()) := by
  have h0 : (0 : Int) ≤ (k : Int) := Int.natCast_nonneg _
  have z0 : decide ((0 : Int) ≤ (k : Int)) = true := decide_eq_true h0
  cases w
  · have hk : k < 32 := hk
    have e := and31' k hk
    rcases hop with rfl | rfl | rfl
    · rw [sh96f _ _ h0]; unfold fAb S14_96f; rw [e, z0, tt_eq]; rfl
    · rw [sh112f _ _ h0]; unfold fAb S14_112f; rw [e, z0, tt_eq]; rfl
    · rw [sh192f _ _ h0]; unfold fAb S14_192f; rw [e, z0, tt_eq]; rfl
  · have hk : k < 64 := hk
    have e := and63' k hk
    rcases hop with rfl | rfl | rfl
    · rw [sh96t _ _ h0]; unfold fAb S14_96t; rw [e, z0, tt_eq]; rfl
    · rw [sh112t _ _ h0]; unfold fAb S14_112t; rw [e, z0, tt_eq]; rfl
    · rw [sh192t _ _ h0]; unfold fAb S14_192t; rw [e, z0, tt_eq]; rfl
end Go.Proofs
