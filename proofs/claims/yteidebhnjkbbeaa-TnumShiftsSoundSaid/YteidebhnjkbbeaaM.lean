import Derived.Test.YteidebhnjkbbeaaC
namespace Go.Proofs
open Go.GX
set_option linter.unusedVariables false
set_option linter.unusedSimpArgs false
theorem tt_eq (n : Nat) (b : Bool) : tt n b = b := by
  induction n with
  | zero => rfl
  | succ n ih => simp [tt, ih]
/-! ## The length of a number -/
def BL (n k : Nat) : Prop := n < 2 ^ k ∧ (k = 0 ∨ 2 ^ (k - 1) ≤ n)
theorem BL_uniq {n k k' : Nat} (h : BL n k) (h' : BL n k') : k = k' := by
  have key : ∀ {a b : Nat}, BL n a → BL n b → ¬ a < b := by
    intro a b ha hb hlt
    rcases hb.2 with e | e
    · omega
    · have : 2 ^ a ≤ 2 ^ (b - 1) := Nat.pow_le_pow_right (by omega) (by omega)
      have := ha.1
      omega
  have := key h h'; have := key h' h; omega
theorem tbl_ok : ∀ i, i < 256 → BL i (tbl0.getD i 0).toNat := by
  have h : ((List.range 256).all fun i => Nat.blt i (2 ^ (tbl0.getD i 0).toNat) && (Nat.beq (tbl0.getD i 0).toNat 0 || Nat.ble (2 ^ ((tbl0.getD i 0).toNat - 1)) i)) = true := by decide +kernel
  intro i hi
  have := List.all_eq_true.1 h i (by simpa using hi)
  simp only [Bool.and_eq_true, Bool.or_eq_true] at this
  exact ⟨Nat.le_of_ble_eq_true this.1, this.2.imp Nat.eq_of_beq_eq_true Nat.le_of_ble_eq_true⟩
theorem tbl_le : ∀ i, i < 256 → (tbl0.getD i 0).toNat ≤ 8 := by
  have h : ((List.range 256).all fun i => Nat.ble (tbl0.getD i 0).toNat 8) = true := by decide +kernel
  intro i hi
  exact Nat.le_of_ble_eq_true (List.all_eq_true.1 h i (by simpa using hi))
theorem BL_shift {n s k : Nat} (h : BL (n / 2 ^ s) k) (h1 : s = 0 ∨ 1 ≤ n / 2 ^ s) : BL n (s + k) := by
  have hp : 0 < 2 ^ s := Nat.pow_pos (by omega)
  have a1 := h.1
  have e1 : n < 2 ^ (s + k) := by
    rw [Nat.pow_add, Nat.mul_comm]
    exact (Nat.div_lt_iff_lt_mul hp).1 a1
  refine ⟨e1, ?_⟩
  rcases h.2 with e | e
  · rcases h1 with h1 | h1
    · left; omega
    · subst e; rw [Nat.pow_zero] at a1; omega
  · by_cases hk : k = 0
    · subst hk
      rcases h1 with h1 | h1
      · left; omega
      · rw [Nat.pow_zero] at a1; omega
    · right
      rw [show s + k - 1 = s + (k - 1) from by omega, Nat.pow_add, Nat.mul_comm]
      exact (Nat.le_div_iff_mul_le hp).1 e
theorem leaf (x : Int) (s : Nat) (y : Int) (hx : InR x) (hy : y = x / ((2 ^ s : Nat) : Int)) (hs : s ≤ 56) (h : y < 256) (h1 : s = 0 ∨ 1 ≤ y) :
    ∃ L : Nat, (bif (tt 1 ((decide (0 ≤ (IntKind.wrap .u8 y))) && (decide ((IntKind.wrap .u8 y) < 256)))) then some (IntKind.wrap .i64 ((s : Int) + (IntKind.wrap .i64 ((tbl0.getD (Int.toNat (IntKind.wrap .u8 y)) 0).toNat : Int)))) else none) = some (L : Int) ∧ L ≤ 64 ∧ BL x.toNat L := by
  have y0 : 0 ≤ y := by rw [hy]; exact Int.ediv_nonneg hx.1 (Int.natCast_nonneg _)
  have hw : IntKind.wrap .u8 y = y := by
    have : IntKind.wrap .u8 y = y % 256 := by simp [IntKind.wrap, IntKind.signed, IntKind.bits]
    omega
  rw [hw, decide_eq_true y0, decide_eq_true h, tt_eq]
  have hlt : y.toNat < 256 := by omega
  have ht := tbl_le y.toNat hlt
  have hb := tbl_ok y.toNat hlt
  have hyn : y.toNat = x.toNat / 2 ^ s := by
    obtain ⟨m, rfl⟩ : ∃ m : Nat, x = (m : Int) := ⟨x.toNat, (Int.toNat_of_nonneg hx.1).symm⟩
    rw [hy, ← Int.natCast_ediv, Int.toNat_natCast, Int.toNat_natCast]
  generalize (tbl0.getD y.toNat 0).toNat = t at ht hb ⊢
  refine ⟨s + t, ?_, by omega, BL_shift (by rw [← hyn]; exact hb) (h1.imp id (fun h => by omega))⟩
  simp only [Bool.and_self, cond_true]
  congr 1
  rw [wrap_i64 (t : Int)]
  rw [if_neg (by omega), wrap_i64, if_neg (by omega)]
  omega
theorem shr_n (x : Int) (k : Nat) (hk : k ≤ 64) : ishr .u64 x (k : Int) = x / ((2 ^ k : Nat) : Int) := by
  unfold ishr
  rw [show IntKind.bits .u64 = 64 from rfl, show (min ((k : Int).toNat) 64) = k from by omega]
  have h : ((2 : Int) ^ k) = ((2 ^ k : Nat) : Int) := by rw [Int.natCast_pow]; rfl
  rw [h, Int.fdiv_eq_ediv_of_nonneg _ (Int.natCast_nonneg _)]
theorem shr32 (x : Int) : ishr .u64 x 32 = x / 4294967296 := shr_n x 32 (by omega)
theorem shr16 (x : Int) : ishr .u64 x 16 = x / 65536 := shr_n x 16 (by omega)
theorem shr8 (x : Int) : ishr .u64 x 8 = x / 256 := shr_n x 8 (by omega)
theorem len_some (x : Int) (hx : InR x) : ∃ L : Nat, S42 x = some (L : Int) ∧ L ≤ 64 ∧ BL x.toNat L := by
  have h56 : ((2 ^ 56 : Nat) : Int) = 72057594037927936 := rfl
  have h48 : ((2 ^ 48 : Nat) : Int) = 281474976710656 := rfl
  have h40 : ((2 ^ 40 : Nat) : Int) = 1099511627776 := rfl
  have h32 : ((2 ^ 32 : Nat) : Int) = 4294967296 := rfl
  have h24 : ((2 ^ 24 : Nat) : Int) = 16777216 := rfl
  have h16 : ((2 ^ 16 : Nat) : Int) = 65536 := rfl
  have h8 : ((2 ^ 8 : Nat) : Int) = 256 := rfl
  have h0 : ((2 ^ 0 : Nat) : Int) = 1 := rfl
  have hx' := hx
  unfold InR at hx'
  unfold S42
  simp only [shr32, shr16, shr8]
  by_cases c1 : x ≥ 4294967296
  · rw [decide_eq_true c1, cond_true]
    by_cases c2 : x / 4294967296 ≥ 65536
    · rw [decide_eq_true c2, cond_true]
      by_cases c3 : x / 4294967296 / 65536 ≥ 256
      · rw [decide_eq_true c3, cond_true]
        exact leaf x 56 _ hx (by rw [h56]; omega) (by omega) (by omega) (.inr (by omega))
      · rw [decide_eq_false c3, cond_false]
        exact leaf x 48 _ hx (by rw [h48]; omega) (by omega) (by omega) (.inr (by omega))
    · rw [decide_eq_false c2, cond_false]
      by_cases c3 : x / 4294967296 ≥ 256
      · rw [decide_eq_true c3, cond_true]
        exact leaf x 40 _ hx (by rw [h40]; omega) (by omega) (by omega) (.inr (by omega))
      · rw [decide_eq_false c3, cond_false]
        exact leaf x 32 _ hx (by rw [h32]) (by omega) (by omega) (.inr (by omega))
  · rw [decide_eq_false c1, cond_false]
    by_cases c2 : x ≥ 65536
    · rw [decide_eq_true c2, cond_true]
      by_cases c3 : x / 65536 ≥ 256
      · rw [decide_eq_true c3, cond_true]
        exact leaf x 24 _ hx (by rw [h24]; omega) (by omega) (by omega) (.inr (by omega))
      · rw [decide_eq_false c3, cond_false]
        exact leaf x 16 _ hx (by rw [h16]) (by omega) (by omega) (.inr (by omega))
    · rw [decide_eq_false c2, cond_false]
      by_cases c3 : x ≥ 256
      · rw [decide_eq_true c3, cond_true]
        exact leaf x 8 _ hx (by rw [h8]) (by omega) (by omega) (.inr (by omega))
      · rw [decide_eq_false c3, cond_false]
        exact leaf x 0 _ hx (by rw [h0]; omega) (by omega) (by omega) (.inl rfl)
/-! ## The reference's mask -/
theorem ofK_run (least : Int) : ∀ (n k : Nat) (x : Nat) (j : Nat), BL x k → k < n → j + k ≤ 64 →
    ofK least n (x : Int) ((2 ^ j - 1 : Nat) : Int) = some (iandn .u64 least ((2 ^ (j + k) - 1 : Nat) : Int), ((2 ^ (j + k) - 1 : Nat) : Int), ())
  | 0, _, _, _, _, h, _ => by omega
  | n + 1, k, x, j, hb, hk, hj => by
    simp only [ofK]
    by_cases h0 : x = 0
    · have : k = 0 := BL_uniq hb ⟨by rw [h0]; decide, .inl rfl⟩
      subst this
      subst h0
      simp
    · have hk1 : 1 ≤ k := by
        rcases Nat.eq_zero_or_pos k with e | e
        · subst e; have := hb.1; simp at this; exact absurd this h0
        · exact e
      rw [decide_eq_false (by omega)]
      simp only [Bool.not_false, cond_true]
      have hsh : ishr .u64 (x : Int) 1 = ((x / 2 : Nat) : Int) := by
        have := shr_n (x : Int) 1 (by omega)
        rw [show ((1 : Nat) : Int) = 1 from rfl] at this
        rw [this]; omega
      have hp : 2 ^ j ≤ 2 ^ 63 := Nat.pow_le_pow_right (by omega) (by omega)
      have hp0 : 0 < 2 ^ j := Nat.pow_pos (by omega)
      have hm : ior .u64 (ishl .u64 ((2 ^ j - 1 : Nat) : Int) 1) 1 = ((2 ^ (j + 1) - 1 : Nat) : Int) := by
        have hl : ishl .u64 ((2 ^ j - 1 : Nat) : Int) 1 = ((2 * (2 ^ j - 1) : Nat) : Int) := by
          unfold ishl
          rw [show IntKind.bits .u64 = 64 from rfl, show (min ((1 : Int).toNat) 64) = 1 from rfl, wrap_u64]
          omega
        rw [hl, ior_n, u_cast _ (by omega), show u 1 = 1 from rfl]
        have := Nat.two_pow_add_eq_or_of_lt (i := 1) (b := 1) (by omega) (2 ^ j - 1)
        rw [Nat.pow_one] at this
        rw [← this, Nat.pow_succ]; omega
      rw [hsh, hm]
      have hb' : BL (x / 2) (k - 1) := by
        refine ⟨?_, ?_⟩
        · have := hb.1
          rw [show k = k - 1 + 1 from by omega, Nat.pow_succ] at this
          omega
        · by_cases e : k - 1 = 0
          · exact .inl e
          · right
            rcases hb.2 with e' | e'
            · omega
            · rw [show k - 1 = k - 1 - 1 + 1 from by omega, Nat.pow_succ] at e'
              omega
      have := ofK_run least n (k - 1) (x / 2) (j + 1) hb' (by omega) (by omega)
      rw [show j + 1 + (k - 1) = j + k from by omega] at this
      exact this
end Go.Proofs
