import Derived.Test.YteidebhnjkbbeaaZB
namespace Go.Proofs
open Go.GX
set_option linter.unusedVariables false
set_option linter.unusedSimpArgs false
theorem sh_sel (op : Int) (w : Bool) (k : Nat) (hk : k < (if w then 64 else 32)) (hop : op = 96 ∨ op = 112 ∨ op = 192) {M z V : Int} (hM : InR M) (hz : InR z) (hV : InR V) (h : ∀ i, bit M i = true ∨ bit z i = bit V i) :
    ∀ i, bit (fSh op M k w) i = true ∨ bit (fSh op z k w) i = bit (fSh op V k w) i := by
  have h0 : (0 : Int) ≤ (k : Int) := Int.natCast_nonneg _
  cases w
  · have hk : k < 32 := hk
    rcases hop with rfl | rfl | rfl
    · rw [sh96f _ _ h0, sh96f _ _ h0, sh96f _ _ h0]; exact sel_lo (sel_shl k (by omega) (sel_lo h))
    · rw [sh112f _ _ h0, sh112f _ _ h0, sh112f _ _ h0]; exact sel_lo (sel_shr k (by omega) (inR_iand _ _) (inR_iand _ _) (inR_iand _ _) (sel_lo h))
    · rw [sh192f _ _ h0, sh192f _ _ h0, sh192f _ _ h0, i64_of_sx, i64_of_sx, i64_of_sx]
      exact sel_lo (sel_sar k (by omega) (inR_wrap _) (inR_wrap _) (inR_wrap _) (sel_sx (sel_lo h)))
  · have hk : k < 64 := hk
    rcases hop with rfl | rfl | rfl
    · rw [sh96t _ _ h0, sh96t _ _ h0, sh96t _ _ h0]; exact sel_shl k (by omega) h
    · rw [sh112t _ _ h0, sh112t _ _ h0, sh112t _ _ h0]; exact sel_shr k (by omega) hM hz hV h
    · rw [sh192t _ _ h0, sh192t _ _ h0, sh192t _ _ h0]; exact sel_sar k (by omega) hM hz hV h
end Go.Proofs
