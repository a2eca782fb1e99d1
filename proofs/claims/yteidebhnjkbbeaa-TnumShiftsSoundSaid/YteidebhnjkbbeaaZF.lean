import Derived.Test.YteidebhnjkbbeaaZE
namespace Go.Proofs
open Go.GX
set_option linter.unusedVariables false
set_option linter.unusedSimpArgs false
theorem has_shift (op : Int) (t : Tn.den) (z : Int) (k : Nat) (w : Bool) (h1 : InR t.1) (h2 : InR t.2.1) (hz : InR z) (hb : ∀ i, bit t.2.1 i = true ∨ bit z i = bit t.1 i) (h : (fShf op t (k : Int) w).2.1 = 0) :
    fHas (fShf op t (k : Int) w).1 (fAb op w z (k : Int)).1 = true ∧ (fAb op w z (k : Int)).2.1 = 0 ∧ aoK op z (k : Int) = true := by
  obtain ⟨hop, hk, e⟩ := shf_ok op t k w h1 h2 h
  rw [e, ab_eq op w z k hk hop]
  refine ⟨has_iff.2 (sh_sel op w k hk hop h2 hz h1 hb), rfl, ?_⟩
  unfold aoK
  rcases hop with rfl | rfl | rfl <;> rfl
theorem cast8 (t : Tn.den) : fCast t 8 = (iand .u64 t.1 255, iand .u64 t.2.1 255, ()) := rfl
theorem cast32 (t : Tn.den) : fCast t 32 = (iand .u64 t.1 4294967295, iand .u64 t.2.1 4294967295, ()) := rfl
theorem has_and {t : Tn.den} {z m : Int} (hb : ∀ i, bit t.2.1 i = true ∨ bit z i = bit t.1 i) : fHas (iand .u64 t.1 m, iand .u64 t.2.1 m, ()) (iand .u64 z m) = true := by
  rw [has_iff]
  intro i
  simp only [bit_iand]
  have := hb i
  cases bit m i <;> simp_all
end Go.Proofs
