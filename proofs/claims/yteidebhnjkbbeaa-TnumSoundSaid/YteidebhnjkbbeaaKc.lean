import Derived.Test.YteidebhnjkbbeaaKb
import Derived.Test.YteidebhnjkbbeaaGc
namespace Go.Proofs
open Go.GX
set_option linter.unusedVariables false
set_option linter.unusedSimpArgs false
theorem E14_0 (x y : Int) : E14 (0, true, false, x, y, ()) = some (IntKind.wrap .u64 (x + y), 0, ()) := by kernel_rfl
theorem E14_16 (x y : Int) : E14 (16, true, false, x, y, ()) = some (IntKind.wrap .u64 (x - y), 0, ()) := by kernel_rfl
theorem E14_32 (x y : Int) : E14 (32, true, false, x, y, ()) = some (IntKind.wrap .u64 (x * y), 0, ()) := by kernel_rfl
theorem E14_64 (x y : Int) : E14 (64, true, false, x, y, ()) = some (ior .u64 x y, 0, ()) := by kernel_rfl
theorem E14_80 (x y : Int) : E14 (80, true, false, x, y, ()) = some (iand .u64 x y, 0, ()) := by kernel_rfl
theorem E14_160 (x y : Int) : E14 (160, true, false, x, y, ()) = some (ixor .u64 x y, 0, ()) := by kernel_rfl
theorem F13_eq (a : Tn) (n : Int) : F13 (a, n, ()) = ior .u64 a.1 (iand .u64 n a.2.1) ∧ G13 (a, n, ()) = true := ⟨rfl, rfl⟩
theorem F15_eq (t : Tn) (n : Int) : F15 (t, n, ()) = hasT t n ∧ G15 (t, n, ()) = true := ⟨rfl, rfl⟩
theorem one_has (a : Tn) (n : Int) : hasT a (ior .u64 a.1 (iand .u64 n a.2.1)) = true := hasT_iff.2 fun i hi => by
  rw [bit_ior, bit_iand, hi]; simp
/-- what an operation of two numbers is -/
def op2 (op x y : Int) : Int := if op = 0 then IntKind.wrap .u64 (x + y) else if op = 16 then IntKind.wrap .u64 (x - y) else if op = 32 then IntKind.wrap .u64 (x * y) else if op = 64 then ior .u64 x y else if op = 80 then iand .u64 x y else ixor .u64 x y
def isOp (op : Int) : Prop := op = 0 ∨ op = 16 ∨ op = 32 ∨ op = 64 ∨ op = 80 ∨ op = 160
theorem E14_eq {op : Int} (h : isOp op) (x y : Int) : E14 (op, true, false, x, y, ()) = some (op2 op x y, 0, ()) := by
  rcases h with rfl | rfl | rfl | rfl | rfl | rfl
  · exact E14_0 x y
  · exact E14_16 x y
  · exact E14_32 x y
  · exact E14_64 x y
  · exact E14_80 x y
  · exact E14_160 x y
theorem F14_eq {op : Int} (h : isOp op) (x y : Int) : F14 (op, true, false, x, y, ()) = (op2 op x y, 0, ()) ∧ G14 (op, true, false, x, y, ()) = true := ofE (E14_eq h x y)
theorem binT_ok {op : Int} (h : isOp op) (a b : Tn) : (binT op a b).2.1 = 0 := by
  rcases h with rfl | rfl | rfl | rfl | rfl | rfl <;> rfl
theorem binT_not {op : Int} (h : ¬ isOp op) (a b : Tn) : binT op a b = ((0, 0, ()), 1, ()) := by
  unfold isOp at h
  unfold binT
  rw [if_neg (by omega), if_neg (by omega), if_neg (by omega), if_neg (by omega), if_neg (by omega), if_neg (by omega)]
theorem bin_sound {op : Int} (h : isOp op) {a b : Tn} {x y : Int} (ha : RT a) (hb : RT b) (hxr : InR x) (hyr : InR y) (ma : mayT a) (mb : mayT b) (hx : hasT a x = true) (hy : hasT b y = true) :
    hasT (binT op a b).1 (op2 op x y) = true ∧ mayT (binT op a b).1 := by
  rcases h with rfl | rfl | rfl | rfl | rfl | rfl
  · exact ⟨add_has ma mb hx hy, mayT_knw _ _⟩
  · exact ⟨sub_has ma mb hx hy, mayT_knw _ _⟩
  · exact ⟨mul_has ha hb hxr hyr ma mb hx hy, mayT_knw _ _⟩
  · rw [hasT_iff] at hx hy
    refine ⟨hasT_iff.2 fun i hi => ?_, fun i => ?_⟩
    · have hi : bit (iandn .u64 (ior .u64 a.2.1 b.2.1) (ior .u64 a.1 b.1)) i = false := hi
      show bit (ior .u64 x y) i = bit (ior .u64 a.1 b.1) i
      rw [bit_iandn, bit_ior, bit_ior] at hi
      rw [bit_ior, bit_ior]
      have h1 := hx i; have h2 := hy i; have m1 := ma i; have m2 := mb i
      revert hi h1 h2 m1 m2
      cases bit a.1 i <;> cases bit b.1 i <;> cases bit a.2.1 i <;> cases bit b.2.1 i <;> cases bit x i <;> cases bit y i <;> simp
    · show (bit (ior .u64 a.1 b.1) i && bit (iandn .u64 (ior .u64 a.2.1 b.2.1) (ior .u64 a.1 b.1)) i) = false
      rw [bit_iandn]; cases bit (ior .u64 a.1 b.1) i <;> simp
  · rw [hasT_iff] at hx hy
    refine ⟨hasT_iff.2 fun i hi => ?_, fun i => ?_⟩
    · have hi : bit (iandn .u64 (iand .u64 (ior .u64 a.1 a.2.1) (ior .u64 b.1 b.2.1)) (iand .u64 a.1 b.1)) i = false := hi
      show bit (iand .u64 x y) i = bit (iand .u64 a.1 b.1) i
      rw [bit_iandn, bit_iand, bit_iand, bit_ior, bit_ior] at hi
      rw [bit_iand, bit_iand]
      have h1 := hx i; have h2 := hy i; have m1 := ma i; have m2 := mb i
      revert hi h1 h2 m1 m2
      cases bit a.1 i <;> cases bit b.1 i <;> cases bit a.2.1 i <;> cases bit b.2.1 i <;> cases bit x i <;> cases bit y i <;> simp
    · show (bit (iand .u64 a.1 b.1) i && bit (iandn .u64 (iand .u64 (ior .u64 a.1 a.2.1) (ior .u64 b.1 b.2.1)) (iand .u64 a.1 b.1)) i) = false
      rw [bit_iandn]; cases bit (iand .u64 a.1 b.1) i <;> simp
  · refine ⟨hasT_iff.2 fun i hi => ?_, mayT_knw _ _⟩
    rw [hasT_iff] at hx hy
    have hi : bit (ior .u64 a.2.1 b.2.1) i = false := hi
    show bit (ixor .u64 x y) i = bit (iandn .u64 (ixor .u64 a.1 b.1) (ior .u64 a.2.1 b.2.1)) i
    rw [bit_iandn, hi, bit_ixor, bit_ixor]
    rw [bit_ior, Bool.or_eq_false_iff] at hi
    rw [hx i hi.1, hy i hi.2]; simp
theorem S4_eq (op : Int) (l : List Tn) (n : List Int) : E4 (op, l, n, ()) = S4 F9 G9 F10 G10 F12 G12 F13 G13 F14 G14 F15 G15 op l n := rfl
theorem E4_eq {op : Int} {l : List Tn} {n : List Int} (h0 : RT (l.getD 0 (0, 0, ()))) (h1 : RT (l.getD 1 (0, 0, ()))) : E4 (op, l, n, ()) = some true := by
  rw [S4_eq]
  unfold S4
  generalize l.getD 0 (0, 0, ()) = a0 at *
  generalize l.getD 1 (0, 0, ()) = b0 at *
  generalize n.getD 0 0 = n0 at *
  generalize n.getD 1 0 = n1 at *
  rw [(F9_eq a0).1, (F9_eq a0).2, (F9_eq b0).1, (F9_eq b0).2]
  have ra := RT_knw (v := a0.1) h0.2
  have rb := RT_knw (v := b0.1) h1.2
  have ma := mayT_knw a0.1 a0.2.1
  have mb := mayT_knw b0.1 b0.2.1
  generalize knw a0.1 a0.2.1 = a at *
  generalize knw b0.1 b0.2.1 = b at *
  rw [(F13_eq a n0).1, (F13_eq a n0).2, (F13_eq b n1).1, (F13_eq b n1).2]
  have hx := one_has a n0
  have hy := one_has b n1
  have hxr : InR (ior .u64 a.1 (iand .u64 n0 a.2.1)) := inR_ior _ _
  have hyr : InR (ior .u64 b.1 (iand .u64 n1 b.2.1)) := inR_ior _ _
  generalize ior .u64 a.1 (iand .u64 n0 a.2.1) = x at *
  generalize ior .u64 b.1 (iand .u64 n1 b.2.1) = y at *
  rw [(F10_eq op a b).1, (F10_eq op a b).2, show F12 () = true from rfl, show G12 () = true from rfl]
  by_cases hop : isOp op
  · rw [(F14_eq hop x y).1, (F14_eq hop x y).2]
    have f15 : ∀ t n, F15 (t, n, ()) = hasT t n := fun t n => rfl
    have g15 : ∀ t n, G15 (t, n, ()) = true := fun t n => rfl
    rw [f15, f15, g15, g15]
    obtain ⟨g1, g2⟩ := bin_sound hop ra rb hxr hyr ma mb hx hy
    refine (bif_f ?_).trans ((bif_t rfl).trans ((bif_t g1).trans ((bif_t (mayB.2 g2)).trans ((bif_t hx).trans rfl))))
    rw [binT_ok hop]; rfl
  · rw [binT_not hop]
    exact (bif_t rfl).trans ((bif_t rfl).trans rfl)
theorem RT_at {l : List Tn} {n : Nat} (h : WFv (.arr n (.pair (.int .u64) (.pair (.int .u64) .unit))) l) {i : Nat} (hi : i < n) : RT (l.getD i (0, 0, ())) := by
  have hl : i < l.length := by rw [h.1]; exact hi
  rw [getD_lt hl]
  have := h.2 _ (List.getElem_mem hl)
  exact ⟨wf_u64 this.1, wf_u64 this.2.1⟩
theorem tnumSound_pure (x0 : Int) (w0 : WFv (.int .i64) x0) (x1 : List Tn) (w1 : WFv (.arr 2 (.pair (.int .u64) (.pair (.int .u64) .unit))) x1) (x2 : List Int) (w2 : WFv (.arr 2 (.int .u64)) x2) :
    PureOK Try.prog 4 [⟨.int .i64, x0⟩, ⟨.arr 2 (.pair (.int .u64) (.pair (.int .u64) .unit)), x1⟩, ⟨.arr 2 (.int .u64), x2⟩] ⟨.bool, true⟩ := by
  have h : F4 (x0, x1, x2, ()) = true ∧ G4 (x0, x1, x2, ()) = true := ofE (E4_eq (RT_at w1 (by omega)) (RT_at w1 (by omega)))
  have := p4 (x0, x1, x2, ()) h.2
  rw [h.1] at this
  exact this
end Go.Proofs
