import Derived.Test.YteidebhnjkbbeaaM
namespace Go.Proofs
open Go.GX
set_option linter.unusedVariables false
set_option linter.unusedSimpArgs false
def inU (b : Int) : Bool := decide (0 ≤ b) && decide (b < 18446744073709551616)
theorem inU_iff {b : Int} : inU b = true ↔ InR b := by simp [inU, InR]
def fMay (t : Tn.den) : Tn.den := (iandn .u64 t.1 t.2.1, t.2.1, ())
def fOne (t : Tn.den) (n : Int) : Int := ior .u64 t.1 (iand .u64 n t.2.1)
def fHas (t : Tn.den) (n : Int) : Bool := decide (iandn .u64 n t.2.1 = iandn .u64 t.1 t.2.1)
def fRHas (t : Tn.den) (n : Int) : Bool := decide (iandn .u64 (ixor .u64 n t.1) t.2.1 = 0)
def fMeet (x y : Tn.den) : TBo.den := (S17 x y).getD ((0, (0, ())), false, ())
def fRMeet (x y : Tn.den) : TBo.den := (S18 x y).getD ((0, (0, ())), false, ())
def fIn (x y : Tn.den) : Bool := bif decide (ior .u64 x.2.1 y.2.1 = x.2.1) then fHas x y.1 else false
def fRIn (x y : Tn.den) : Bool := bif decide (iandn .u64 y.2.1 x.2.1 = 0) then decide (iandn .u64 (ixor .u64 x.1 y.1) x.2.1 = 0) else false
def fJoin (x y : Tn.den) : Tn.den := (iandn .u64 x.1 (ior .u64 (ior .u64 x.2.1 y.2.1) (ixor .u64 x.1 y.1)), ior .u64 (ior .u64 x.2.1 y.2.1) (ixor .u64 x.1 y.1), ())
def fLen (x : Int) : Int := (S42 x).getD 0
def fOf (x y : Int) : Tn.den := (iandn .u64 x (IntKind.wrap .u64 (ishl .u64 1 (fLen (ixor .u64 x y)) - 1)), IntKind.wrap .u64 (ishl .u64 1 (fLen (ixor .u64 x y)) - 1), ())
def fROf (x y : Int) : Tn.den := (ofK x 100 (ixor .u64 x y) 0).getD (0, 0, ())
def fCast (x : Tn.den) (n : Int) : Tn.den := (S28 x n).getD (0, 0, ())
def fRCast (x : Tn.den) (n : Int) : Tn.den := (S29 x n).getD (0, 0, ())
def Q5 : Sp5 := ⟨fMay, fOne, fHas, fRHas, fMeet, fRMeet, fIn, fRIn, fJoin, fJoin, fOf, fROf, fCast, fRCast, fLen, inU⟩
theorem has_eq (t : Tn.den) (n : Int) : fHas t n = fRHas t n := by
  unfold fHas fRHas
  have : (iandn .u64 n t.2.1 = iandn .u64 t.1 t.2.1) ↔ (iandn .u64 (ixor .u64 n t.1) t.2.1 = 0) := by
    rw [eq_bits (inR_iandn _ _) (inR_iandn _ _), eq0_bits (inR_iandn _ _)]
    simp only [bit_iandn, bit_ixor]
    refine forall_congr' fun i => ?_
    cases bit n i <;> cases bit t.1 i <;> cases bit t.2.1 i <;> simp
  simp only [this]
theorem in_eq (x y : Tn.den) (hx : InR x.2.1) : fIn x y = fRIn x y := by
  unfold fIn fRIn
  have h1 : (ior .u64 x.2.1 y.2.1 = x.2.1) ↔ (iandn .u64 y.2.1 x.2.1 = 0) := by
    rw [eq_bits (inR_ior _ _) hx, eq0_bits (inR_iandn _ _)]
    simp only [bit_iandn, bit_ior]
    refine forall_congr' fun i => ?_
    cases bit x.2.1 i <;> cases bit y.2.1 i <;> simp
  have h2 : fHas x y.1 = decide (iandn .u64 (ixor .u64 x.1 y.1) x.2.1 = 0) := by
    unfold fHas
    have : (iandn .u64 y.1 x.2.1 = iandn .u64 x.1 x.2.1) ↔ (iandn .u64 (ixor .u64 x.1 y.1) x.2.1 = 0) := by
      rw [eq_bits (inR_iandn _ _) (inR_iandn _ _), eq0_bits (inR_iandn _ _)]
      simp only [bit_iandn, bit_ixor]
      refine forall_congr' fun i => ?_
      cases bit y.1 i <;> cases bit x.1 i <;> cases bit x.2.1 i <;> simp
    simp only [this]
  simp only [h1, h2]
theorem meet_some (x y : Tn.den) : S17 x y = some (fMeet x y) := by
  unfold fMeet S17
  cases decide (iandn .u64 (ixor .u64 x.1 y.1) (ior .u64 x.2.1 y.2.1) = 0) <;> rfl
theorem rmeet_some (x y : Tn.den) : S18 x y = some (fRMeet x y) := by
  unfold fRMeet S18
  cases decide (iandn .u64 (iandn .u64 (ixor .u64 x.1 y.1) x.2.1) y.2.1 = 0) <;> rfl
theorem meet_eq (x y : Tn.den) : fMeet x y = fRMeet x y := by
  unfold fMeet fRMeet S17 S18
  have : iandn .u64 (ixor .u64 x.1 y.1) (ior .u64 x.2.1 y.2.1) = iandn .u64 (iandn .u64 (ixor .u64 x.1 y.1) x.2.1) y.2.1 := by
    rw [eq_bits (inR_iandn _ _) (inR_iandn _ _)]
    intro i
    simp only [bit_iandn, bit_ior]
    cases bit (ixor .u64 x.1 y.1) i <;> cases bit x.2.1 i <;> cases bit y.2.1 i <;> rfl
  rw [this]
theorem mask_len (x y : Int) : ∃ k : Nat, k ≤ 64 ∧ S42 (ixor .u64 x y) = some (k : Int) ∧ BL (u (ixor .u64 x y)) k ∧ IntKind.wrap .u64 (ishl .u64 1 (k : Int) - 1) = ((2 ^ k - 1 : Nat) : Int) := by
  obtain ⟨k, h1, h2, h3⟩ := len_some _ (inR_ixor x y)
  refine ⟨k, h2, h1, ?_, ?_⟩
  · have : (ixor .u64 x y).toNat = u (ixor .u64 x y) := by have := inR_ixor x y; unfold InR at this; unfold u; omega
    rwa [← this]
  · unfold ishl
    rw [show IntKind.bits .u64 = 64 from rfl, show (min ((k : Int).toNat) 64) = k from by omega, wrap_u64, wrap_u64]
    have h : ((2 : Int) ^ k) = ((2 ^ k : Nat) : Int) := by rw [Int.natCast_pow]; rfl
    rw [h]
    have hp : 2 ^ k ≤ 2 ^ 64 := Nat.pow_le_pow_right (by omega) h2
    have hp0 : 0 < 2 ^ k := Nat.pow_pos (by omega)
    omega
theorem rof_some (x y : Int) : ofK x 100 (ixor .u64 x y) 0 = some (fOf x y) := by
  obtain ⟨k, h1, h2, h3, h4⟩ := mask_len x y
  have := ofK_run x 100 k (u (ixor .u64 x y)) 0 h3 (by omega) (by omega)
  rw [u_of (inR_ixor x y)] at this
  rw [show ((2 ^ 0 - 1 : Nat) : Int) = 0 from rfl, Nat.zero_add] at this
  rw [this]
  unfold fOf fLen
  rw [h2, Option.getD_some, h4]
theorem of_eq (x y : Int) : fOf x y = fROf x y := by unfold fROf; rw [rof_some]; rfl
theorem len_nn (x y : Int) : decide (0 ≤ fLen (ixor .u64 x y)) = true := by
  obtain ⟨k, h1, h2, h3, h4⟩ := mask_len x y
  unfold fLen; rw [h2]; simp
theorem inU_ixor (x y : Int) : inU (ixor .u64 x y) = true := inU_iff.2 (inR_ixor x y)
end Go.Proofs
