import Derived.Test.YteidebhnjkbbeaaZ
namespace Go.Proofs
open Go.GX
set_option linter.unusedVariables false
set_option linter.unusedSimpArgs false
theorem sel_shl {M z V : Int} (k : Nat) (hk : k ≤ 64) (h : ∀ i, bit M i = true ∨ bit z i = bit V i) : ∀ i, bit (ishl .u64 M (k : Int)) i = true ∨ bit (ishl .u64 z (k : Int)) i = bit (ishl .u64 V (k : Int)) i := by
  intro i
  rw [bit_shl M k i hk, bit_shl z k i hk, bit_shl V k i hk]
  have := h (i - k)
  cases decide (i < 64) <;> cases decide (k ≤ i) <;> simp_all
theorem sel_shr {M z V : Int} (k : Nat) (hk : k ≤ 64) (hM : InR M) (hz : InR z) (hV : InR V) (h : ∀ i, bit M i = true ∨ bit z i = bit V i) : ∀ i, bit (ishr .u64 M (k : Int)) i = true ∨ bit (ishr .u64 z (k : Int)) i = bit (ishr .u64 V (k : Int)) i := by
  intro i
  rw [bit_shr M k i hk hM, bit_shr z k i hk hz, bit_shr V k i hk hV]
  exact h (i + k)
theorem sel_lo {M z V : Int} (h : ∀ i, bit M i = true ∨ bit z i = bit V i) : ∀ i, bit (iand .u64 M 4294967295) i = true ∨ bit (iand .u64 z 4294967295) i = bit (iand .u64 V 4294967295) i := by
  intro i
  rw [bit_lo, bit_lo, bit_lo]
  have := h i
  cases decide (i < 32) <;> simp_all
theorem sel_sar {M z V : Int} (k : Nat) (hk : k ≤ 63) (hM : InR M) (hz : InR z) (hV : InR V) (h : ∀ i, bit M i = true ∨ bit z i = bit V i) :
    ∀ i, bit (IntKind.wrap .u64 (ishr .i64 (IntKind.wrap .i64 M) (k : Int))) i = true ∨ bit (IntKind.wrap .u64 (ishr .i64 (IntKind.wrap .i64 z) (k : Int))) i = bit (IntKind.wrap .u64 (ishr .i64 (IntKind.wrap .i64 V) (k : Int))) i := by
  intro i
  rw [bit_sar M k i hk hM, bit_sar z k i hk hz, bit_sar V k i hk hV]
  by_cases c : i + k < 64
  · rw [if_pos c, if_pos c, if_pos c]; exact h (i + k)
  · rw [if_neg c, if_neg c, if_neg c]
    have := h 63
    cases decide (i < 64) <;> simp_all
end Go.Proofs
