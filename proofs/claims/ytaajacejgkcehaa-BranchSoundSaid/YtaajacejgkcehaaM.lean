import Derived.Test.YtaajacejgkcehaaI
import Derived.Test.YtaajacejgkcehaaGc
namespace Go.Proofs
open Go.GX
set_option linter.unusedVariables false
set_option linter.unusedSimpArgs false
abbrev Tn := Int × Int × Unit
abbrev Sc := Tn × Int × Int × Unit
def RT (t : Tn) : Prop := InR t.1 ∧ InR t.2.1
def RS (s : Sc) : Prop := RT s.1 ∧ InR s.2.1 ∧ InR s.2.2.1
/-! ## The numbers between two -/
def len (n : Nat) : Nat := if n = 0 then 0 else Nat.log2 n + 1
theorem BL_len (n : Nat) : BL n (len n) := by
  unfold len
  by_cases h : n = 0
  · rw [if_pos h]; subst h; exact ⟨by decide, .inl rfl⟩
  · rw [if_neg h]
    exact ⟨Nat.lt_log2_self, .inr (Nat.log2_self_le h)⟩
theorem len_le {n : Nat} (h : n < 2 ^ 64) : len n ≤ 64 := by
  have hb := BL_len n
  rcases hb.2 with e | e
  · omega
  · have : ¬ 64 ≤ len n - 1 := by
      intro hh
      have := Nat.pow_le_pow_right (show 0 < 2 by omega) hh
      omega
    omega
def msk (k : Nat) : Int := ((2 ^ k - 1 : Nat) : Int)
theorem inR_msk {k : Nat} (h : k ≤ 64) : InR (msk k) := by
  unfold msk
  have : 2 ^ k ≤ 2 ^ 64 := Nat.pow_le_pow_right (by omega) h
  exact inR_nat (by have : 0 < 2 ^ k := Nat.pow_pos (by omega); omega)
theorem bit_msk {k i : Nat} (h : k ≤ 64) : bit (msk k) i = decide (i < k) := by
  unfold bit msk
  have h2 : 2 ^ k ≤ 2 ^ 64 := Nat.pow_le_pow_right (by omega) h
  have h0 : 0 < 2 ^ k := Nat.pow_pos (by omega)
  rw [u_cast _ (by omega), Nat.testBit_two_pow_sub_one]
def mOf (lo hi : Int) : Int := msk (len (u lo ^^^ u hi))
def ofF (lo hi : Int) : Tn := (iandn .u64 lo (mOf lo hi), mOf lo hi, ())
theorem xor_lt (lo hi : Int) : u lo ^^^ u hi < 2 ^ 64 := Nat.xor_lt_two_pow (u_lt _) (u_lt _)
theorem E47_eq {x : Int} (hx : InR x) : E47 (x, ()) = some ((len x.toNat : Nat) : Int) := by
  obtain ⟨L, h1, h2, h3⟩ := len_some x hx
  have := BL_uniq h3 (BL_len _)
  subst this
  exact h1
theorem F47_eq {x : Int} (hx : InR x) : F47 (x, ()) = ((len x.toNat : Nat) : Int) ∧ G47 (x, ()) = true := ofE (E47_eq hx)
theorem F38_eq (a b : Int) : F38 (a, b, ()) = (iandn .u64 a b, b, ()) ∧ G38 (a, b, ()) = true := ⟨rfl, rfl⟩
theorem one_shl {L : Nat} (h : L ≤ 64) : IntKind.wrap .u64 (ishl .u64 1 (L : Int) - 1) = msk L := by
  unfold ishl msk
  rw [show IntKind.bits .u64 = 64 from rfl, show (min ((L : Int).toNat) 64) = L by omega]
  have hc : ((2 : Int) ^ L) = ((2 ^ L : Nat) : Int) := by rw [Int.natCast_pow]; rfl
  rw [hc, wrap_u64, wrap_u64]
  have h0 : 0 < 2 ^ L := Nat.pow_pos (by omega)
  by_cases e : L = 64
  · subst e; decide
  · have : 2 ^ L ≤ 2 ^ 63 := Nat.pow_le_pow_right (by omega) (by omega)
    omega
theorem E46_eq (lo hi : Int) : E46 (lo, hi, ()) = some (ofF lo hi) := by
  show S46 F38 G38 F47 G47 lo hi = _
  have hx : InR (ixor .u64 lo hi) := inR_ixor _ _
  have ht : (ixor .u64 lo hi).toNat = u lo ^^^ u hi := by rw [ixor_n]; rfl
  unfold S46
  rw [(F47_eq hx).1, (F47_eq hx).2, ht, one_shl (len_le (xor_lt lo hi)), (F38_eq _ _).1, (F38_eq _ _).2]
  refine (bif_t ?_).trans rfl
  simp only [tt_eq, Bool.and_eq_true, decide_eq_true_eq, true_and, and_true]
  omega
theorem F46_eq (lo hi : Int) : F46 (lo, hi, ()) = ofF lo hi ∧ G46 (lo, hi, ()) = true := ofE (E46_eq lo hi)
theorem V37_run (lo : Int) (t : Tn) : ∀ (k x j : Nat), BL x k → j + k ≤ 64 → wh V37_0 (lo, (), (x : Int), msk j, t, ()) = some (lo, (), msk (j + k), t, ())
  | 0, x, j, hb, _ => by
    have : x = 0 := by have := hb.1; simpa using this
    subst this
    exact wh_stop rfl
  | k + 1, x, j, hb, hj => by
    have h0 : x ≠ 0 := by
      intro h; subst h
      rcases hb.2 with e | e
      · omega
      · have : 0 < 2 ^ (k + 1 - 1) := Nat.pow_pos (by omega)
        omega
    have hp : 2 ^ j ≤ 2 ^ 63 := Nat.pow_le_pow_right (by omega) (by omega)
    have hp0 : 0 < 2 ^ j := Nat.pow_pos (by omega)
    have hm : ior .u64 (ishl .u64 (msk j) 1) 1 = msk (j + 1) := by
      unfold msk
      have hl : ishl .u64 ((2 ^ j - 1 : Nat) : Int) 1 = ((2 * (2 ^ j - 1) : Nat) : Int) := by
        rw [ishl_k .u64 _ 1 1 2 rfl rfl, wrap_u64]; omega
      rw [hl, ior_n, u_cast _ (by omega), show u 1 = 1 from rfl]
      have := Nat.two_pow_add_eq_or_of_lt (i := 1) (b := 1) (by omega) (2 ^ j - 1)
      rw [Nat.pow_one] at this
      rw [← this, Nat.pow_succ]; omega
    have hsh : ishr .u64 (x : Int) 1 = ((x / 2 : Nat) : Int) := by rw [ishr_k .u64 _ 1 1 2 rfl rfl]; omega
    have hstep : V37_0 (lo, (), (x : Int), msk j, t, ()) = some (.inl (lo, (), ((x / 2 : Nat) : Int), msk (j + 1), t, ())) := by
      show R37_0 _ _ lo () (x : Int) (msk j) t = _
      unfold R37_0
      rw [hsh, hm]
      exact bif_t (by rw [decide_eq_false (by omega)]; rfl)
    have hb' : BL (x / 2) k := by
      refine ⟨?_, ?_⟩
      · have := hb.1; rw [Nat.pow_succ] at this; omega
      · by_cases e : k = 0
        · exact .inl e
        · right
          rcases hb.2 with e' | e'
          · omega
          · rw [show k + 1 - 1 = k - 1 + 1 from by omega, Nat.pow_succ] at e'; omega
    rw [wh_next hstep, V37_run lo t k (x / 2) (j + 1) hb' (by omega), show j + 1 + k = j + (k + 1) by omega]
theorem E37_eq (lo hi : Int) : E37 (lo, hi, ()) = some (ofF lo hi) := by
  show S37 W37_0 Q37_0 lo hi = _
  have hw := V37_run lo (0, 0, ()) (len (u lo ^^^ u hi)) (u lo ^^^ u hi) 0 (BL_len _) (by have := len_le (xor_lt lo hi); omega)
  rw [Nat.zero_add] at hw
  have e1 : W37_0 (lo, (), ((u lo ^^^ u hi : Nat) : Int), 0, (0, 0, ()), ()) = _ := whV_of (hd := hd37_0) (ys := ys37_0) hw
  have e2 : Q37_0 (lo, (), ((u lo ^^^ u hi : Nat) : Int), 0, (0, 0, ()), ()) = true := whK_of (hd := hd37_0) (ys := ys37_0) hw
  unfold S37
  rw [ixor_n, e1, e2]
  rfl
theorem F37_eq (lo hi : Int) : F37 (lo, hi, ()) = ofF lo hi ∧ G37 (lo, hi, ()) = true := ofE (E37_eq lo hi)
/-! ## Meet -/
def metB (a b : Tn) : Bool := decide (iandn .u64 (ixor .u64 a.1 b.1) (ior .u64 a.2.1 b.2.1) = 0)
def metF (a b : Tn) : Tn := (iandn .u64 (ior .u64 a.1 b.1) (iand .u64 a.2.1 b.2.1), iand .u64 a.2.1 b.2.1, ())
def metR (a b : Tn) : Tn × Bool × Unit := if metB a b = true then (metF a b, true, ()) else ((0, 0, ()), false, ())
theorem E23_eq (a b : Tn) : E23 (a, b, ()) = some (metR a b) := by
  show S23 F38 G38 a b = _
  unfold S23 metR
  rw [(F38_eq _ _).1, (F38_eq _ _).2]
  cases h : metB a b
  · rw [if_neg (by simp)]; exact bif_t (by unfold metB at h; rw [h]; rfl)
  · rw [if_pos rfl]; exact bif_f (by unfold metB at h; rw [h]; rfl)
theorem iandn_ior (x a b : Int) : iandn .u64 x (ior .u64 a b) = iandn .u64 (iandn .u64 x a) b :=
  bits_eq (inR_iandn _ _) (inR_iandn _ _) (fun i => by rw [bit_iandn, bit_iandn, bit_iandn, bit_ior]; cases bit x i <;> cases bit a i <;> cases bit b i <;> rfl)
theorem E26_eq (a b : Tn) : E26 (a, b, ()) = some (metR a b) := by
  show S26 a b = _
  unfold S26 metR
  cases h : metB a b
  · rw [if_neg (by simp)]; exact bif_t (by unfold metB at h; rw [iandn_ior] at h; rw [h]; rfl)
  · rw [if_pos rfl]; exact bif_f (by unfold metB at h; rw [iandn_ior] at h; rw [h]; rfl)
theorem F23_eq (a b : Tn) : F23 (a, b, ()) = metR a b ∧ G23 (a, b, ()) = true := ofE (E23_eq a b)
theorem F26_eq (a b : Tn) : F26 (a, b, ()) = metR a b ∧ G26 (a, b, ()) = true := ofE (E26_eq a b)
def max2 (a b : Int) : Int := if a > b then a else b
def min2 (a b : Int) : Int := if a < b then a else b
/-! ## Bounds and bits that know of one another -/
def mnF (s : Sc) : Int := if s.1.1 > s.2.1 then s.1.1 else s.2.1
def mxF (s : Sc) : Int := if ior .u64 s.1.1 s.1.2.1 < s.2.2.1 then ior .u64 s.1.1 s.1.2.1 else s.2.2.1
def rnd (s : Sc) : Option Sc := if mnF s ≤ mxF s then (if metB s.1 (ofF (mnF s) (mxF s)) = true then some (metF s.1 (ofF (mnF s) (mxF s)), mnF s, mxF s, ()) else none) else none
def rnds : Nat → Sc → Option Sc
  | 0, s => some s
  | n + 1, s => (rnd s).bind (rnds n)
def may (s : Sc) : Bool := decide (iand .u64 s.1.1 s.1.2.1 = 0)
def tgt (s : Sc) : Option Sc := if may s = true then rnds 3 s else none
def z2 : Sc := ((0, 0, ()), 0, 0, ())
def tgtR : Option Sc → Sc × Bool × Unit
  | some t => (t, true, ())
  | none => (((0, 0, ()), 0, 0, ()), false, ())
/-! ### the reference -/
theorem V18_in {i : Nat} (hi : i < 3) {s s' w : Sc} (h : rnd s = some s') : V18_0 ((), (), (i : Int), s, w, ()) = some (.inl ((), (), ((i + 1 : Nat) : Int), s', w, ())) := by
  unfold V18_0 R18_0
  change (bif decide ((i : Int) < 3) then (bif decide (mnF s > mxF s) then _ else (bif !(F26 (s.1, F37 (mnF s, mxF s, ()), ())).2.1 then _ else (bif tt 2 (G26 (s.1, F37 (mnF s, mxF s, ()), ()) && tt 1 (G37 (mnF s, mxF s, ()))) then some (Sum.inl ((), (), IntKind.wrap .i64 ((i : Int) + 1), ((F26 (s.1, F37 (mnF s, mxF s, ()), ())).1, mnF s, mxF s, _), w, ())) else none))) else _) = _
  unfold rnd at h
  split at h
  · rename_i h1
    split at h
    · rename_i h2
      cases h
      rw [(F37_eq (mnF s) (mxF s)).1, (F37_eq (mnF s) (mxF s)).2, (F26_eq s.1 (ofF (mnF s) (mxF s))).1, (F26_eq s.1 (ofF (mnF s) (mxF s))).2]
      unfold metR
      rw [if_pos h2]
      refine (bif_t (decide_eq_true (by omega))).trans ((bif_f (decide_eq_false (by omega))).trans ((bif_f rfl).trans ((bif_t rfl).trans ?_)))
      rw [wi64 (by omega)]
      rfl
    · cases h
  · cases h
theorem V18_out {i : Nat} (hi : i < 3) {s w : Sc} (h : rnd s = none) : V18_0 ((), (), (i : Int), s, w, ()) = some (.inr (.inr ((), false, z2, ()))) := by
  unfold V18_0 R18_0
  change (bif decide ((i : Int) < 3) then (bif decide (mnF s > mxF s) then some (Sum.inr (Sum.inr ((), false, z2, ()))) else (bif !(F26 (s.1, F37 (mnF s, mxF s, ()), ())).2.1 then (bif tt 2 (G26 (s.1, F37 (mnF s, mxF s, ()), ()) && tt 1 (G37 (mnF s, mxF s, ()))) then some (Sum.inr (Sum.inr ((), false, z2, ()))) else none) else _)) else _) = _
  refine (bif_t (decide_eq_true (by omega))).trans ?_
  unfold rnd at h
  split at h
  · rename_i h1
    split at h
    · cases h
    · rename_i h2
      rw [(F37_eq (mnF s) (mxF s)).1, (F37_eq (mnF s) (mxF s)).2, (F26_eq s.1 (ofF (mnF s) (mxF s))).1, (F26_eq s.1 (ofF (mnF s) (mxF s))).2]
      unfold metR
      rw [if_neg h2]
      exact (bif_f (decide_eq_false (by omega))).trans ((bif_t rfl).trans (bif_t rfl))
  · exact bif_t (decide_eq_true (by omega))
theorem V18_end {s w : Sc} : V18_0 ((), (), 3, s, w, ()) = some (.inr (.inl ((), (), s, w, ()))) := rfl
theorem W18_run (s w : Sc) : ∀ (n i : Nat), i + n = 3 → wh V18_0 ((), (), (i : Int), s, w, ()) = some (match rnds n s with | some t => .inl ((), (), t, w, ()) | none => .inr ((), false, z2, ())) := by
  intro n
  induction n generalizing s with
  | zero =>
    intro i hi
    have : i = 3 := by omega
    subst this; exact wh_stop V18_end
  | succ n ih =>
    intro i hi
    cases h : rnd s with
    | none => rw [wh_stop (V18_out (by omega) h)]; simp [rnds, h]
    | some s' => rw [wh_next (V18_in (by omega) h), ih s' (i + 1) (by omega)]; simp [rnds, h]
theorem F36_eq (t : Tn) : F36 (t, ()) = decide (iand .u64 t.1 t.2.1 = 0) ∧ G36 (t, ()) = true := ⟨rfl, rfl⟩
theorem E18_eq (s : Sc) : E18 (s, ()) = some (tgtR (tgt s)) := by
  show S18 F26 G26 F36 G36 F37 G37 W18_0 Q18_0 s = _
  unfold S18
  rw [(F36_eq _).1, (F36_eq _).2]
  unfold tgt
  cases hm : may s
  · rw [if_neg (by simp)]
    exact (bif_t (by unfold may at hm; rw [hm]; rfl)).trans rfl
  · rw [if_pos rfl]
    refine (bif_f (by unfold may at hm; rw [hm]; rfl)).trans ?_
    have hw := W18_run s z2 3 0 rfl
    have e2 : Q18_0 ((), (), 0, s, z2, ()) = true := whK_of (hd := hd18_0) (ys := ys18_0) hw
    cases h : rnds 3 s with
    | none =>
      rw [h] at hw
      have e1 : W18_0 ((), (), 0, s, z2, ()) = .inr ((), false, z2, ()) := whV_of (hd := hd18_0) (ys := ys18_0) hw
      unfold z2 at e1 e2
      rw [e1, e2]
      rfl
    | some t =>
      rw [h] at hw
      have e1 : W18_0 ((), (), 0, s, z2, ()) = .inl ((), (), t, z2, ()) := whV_of (hd := hd18_0) (ys := ys18_0) hw
      unfold z2 at e1 e2
      rw [e1, e2]
      rfl
theorem F18_eq (s : Sc) : F18 (s, ()) = tgtR (tgt s) ∧ G18 (s, ()) = true := ofE (E18_eq s)
/-! ### the program's -/
theorem V39_in {i : Nat} (hi : i < 3) {s s' w : Sc} (h : rnd s = some s') : V39_0 ((), (), true, (i : Int), s, w, ()) = some (.inl ((), (), true, ((i + 1 : Nat) : Int), s', w, ())) := by
  unfold V39_0 R39_0
  change (bif decide ((i : Int) < 3) then (bif true then (bif decide (mnF s ≤ mxF s) then (bif tt 2 (G23 (s.1, F46 (mnF s, mxF s, ()), ()) && tt 1 (G46 (mnF s, mxF s, ()))) then some (Sum.inl ((), (), (F23 (s.1, F46 (mnF s, mxF s, ()), ())).2.1, IntKind.wrap .i64 ((i : Int) + 1), ((F23 (s.1, F46 (mnF s, mxF s, ()), ())).1, mnF s, mxF s, _), w, ())) else none) else _) else _) else _) = _
  rw [(F46_eq (mnF s) (mxF s)).1, (F46_eq (mnF s) (mxF s)).2, (F23_eq s.1 (ofF (mnF s) (mxF s))).1, (F23_eq s.1 (ofF (mnF s) (mxF s))).2]
  unfold rnd at h
  split at h
  · rename_i h1
    split at h
    · rename_i h2
      cases h
      unfold metR
      rw [if_pos h2]
      refine (bif_t (decide_eq_true (by omega))).trans ((bif_t rfl).trans ((bif_t (decide_eq_true h1)).trans ((bif_t rfl).trans ?_)))
      rw [wi64 (by omega)]
      rfl
    · cases h
  · cases h
theorem V39_out {i : Nat} (hi : i < 3) {s w : Sc} (h : rnd s = none) : ∃ t, V39_0 ((), (), true, (i : Int), s, w, ()) = some (.inl ((), (), false, ((i + 1 : Nat) : Int), t, w, ())) := by
  unfold V39_0 R39_0
  change ∃ t, (bif decide ((i : Int) < 3) then (bif true then (bif decide (mnF s ≤ mxF s) then (bif tt 2 (G23 (s.1, F46 (mnF s, mxF s, ()), ()) && tt 1 (G46 (mnF s, mxF s, ()))) then some (Sum.inl ((), (), (F23 (s.1, F46 (mnF s, mxF s, ()), ())).2.1, IntKind.wrap .i64 ((i : Int) + 1), ((F23 (s.1, F46 (mnF s, mxF s, ()), ())).1, mnF s, mxF s, _), w, ())) else none) else
    some (Sum.inl ((), (), decide (mnF s ≤ mxF s), IntKind.wrap .i64 ((i : Int) + 1), (s.1, mnF s, mxF s, _), w, ()))) else _) else _) = _
  rw [(F46_eq (mnF s) (mxF s)).1, (F46_eq (mnF s) (mxF s)).2, (F23_eq s.1 (ofF (mnF s) (mxF s))).1, (F23_eq s.1 (ofF (mnF s) (mxF s))).2, wi64 (a := (i : Int) + 1) (by omega)]
  unfold rnd at h
  split at h
  · rename_i h1
    split at h
    · cases h
    · rename_i h2
      unfold metR
      rw [if_neg h2]
      exact ⟨_, (bif_t (decide_eq_true (by omega))).trans ((bif_t rfl).trans ((bif_t (decide_eq_true h1)).trans (bif_t rfl)))⟩
  · rename_i h1
    exact ⟨_, (bif_t (decide_eq_true (by omega))).trans ((bif_t rfl).trans ((bif_f (decide_eq_false h1)).trans (by rw [decide_eq_false h1]; rfl)))⟩
theorem V39_f {i : Nat} (hi : i < 3) {s w : Sc} : ∃ t, V39_0 ((), (), false, (i : Int), s, w, ()) = some (.inl ((), (), false, ((i + 1 : Nat) : Int), t, w, ())) := by
  unfold V39_0 R39_0
  dsimp only
  rw [wi64 (a := (i : Int) + 1) (by omega)]
  exact ⟨_, (bif_t (decide_eq_true (by omega))).trans (bif_f rfl)⟩
theorem V39_end {b : Bool} {s w : Sc} : V39_0 ((), (), b, 3, s, w, ()) = some (.inr ((), (), b, s, w, ())) := rfl
theorem W39_f (w : Sc) : ∀ (n i : Nat) (s : Sc), i + n = 3 → ∃ t, wh V39_0 ((), (), false, (i : Int), s, w, ()) = some ((), (), false, t, w, ()) := by
  intro n
  induction n with
  | zero =>
    intro i s hi
    have : i = 3 := by omega
    subst this; exact ⟨s, wh_stop V39_end⟩
  | succ n ih =>
    intro i s hi
    obtain ⟨t, ht⟩ := V39_f (i := i) (by omega) (s := s) (w := w)
    obtain ⟨t', ht'⟩ := ih (i + 1) t (by omega)
    exact ⟨t', by rw [wh_next ht, ht']⟩
theorem W39_run (w : Sc) : ∀ (n i : Nat) (s : Sc), i + n = 3 → (∀ t, rnds n s = some t → wh V39_0 ((), (), true, (i : Int), s, w, ()) = some ((), (), true, t, w, ())) ∧ (rnds n s = none → ∃ t, wh V39_0 ((), (), true, (i : Int), s, w, ()) = some ((), (), false, t, w, ())) := by
  intro n
  induction n with
  | zero =>
    intro i s hi
    have : i = 3 := by omega
    subst this
    exact ⟨fun t ht => by cases ht; exact wh_stop V39_end, fun h => by cases h⟩
  | succ n ih =>
    intro i s hi
    cases h : rnd s with
    | none =>
      refine ⟨fun t ht => by simp [rnds, h] at ht, fun _ => ?_⟩
      obtain ⟨t, ht⟩ := V39_out (i := i) (by omega) h (w := w)
      obtain ⟨t', ht'⟩ := W39_f w n (i + 1) t (by omega)
      exact ⟨t', by rw [wh_next ht, ht']⟩
    | some s' =>
      have h1 := V39_in (i := i) (by omega) h (w := w)
      have := ih (i + 1) s' (by omega)
      rw [wh_next h1]
      simpa [rnds, h] using this
theorem E39_eq (s : Sc) : E39 (s, ()) = some (tgtR (tgt s)) := by
  show S39 _ _ _ _ W39_0 Q39_0 s = _
  unfold S39
  change (bif !(W39_0 ((), (), may s, 0, s, z2, ())).2.2.1 then (bif tt 1 (Q39_0 ((), (), may s, 0, s, z2, ())) then some (z2, false, ()) else none) else (bif tt 1 (Q39_0 ((), (), may s, 0, s, z2, ())) then some ((W39_0 ((), (), may s, 0, s, z2, ())).2.2.2.1, true, ()) else none)) = _
  unfold tgt
  cases hm : may s
  · rw [if_neg (by simp)]
    obtain ⟨t, ht⟩ := W39_f z2 3 0 s rfl
    have e1 : W39_0 ((), (), false, 0, s, z2, ()) = _ := whV_of (hd := hd39_0) (ys := ys39_0) ht
    have e2 : Q39_0 ((), (), false, 0, s, z2, ()) = true := whK_of (hd := hd39_0) (ys := ys39_0) ht
    rw [e1, e2]; rfl
  · rw [if_pos rfl]
    have hw := W39_run z2 3 0 s rfl
    cases h : rnds 3 s with
    | none =>
      obtain ⟨t, ht⟩ := hw.2 h
      have e1 : W39_0 ((), (), true, 0, s, z2, ()) = _ := whV_of (hd := hd39_0) (ys := ys39_0) ht
      have e2 : Q39_0 ((), (), true, 0, s, z2, ()) = true := whK_of (hd := hd39_0) (ys := ys39_0) ht
      rw [e1, e2]; rfl
    | some t =>
      have ht := hw.1 t h
      have e1 : W39_0 ((), (), true, 0, s, z2, ()) = _ := whV_of (hd := hd39_0) (ys := ys39_0) ht
      have e2 : Q39_0 ((), (), true, 0, s, z2, ()) = true := whK_of (hd := hd39_0) (ys := ys39_0) ht
      rw [e1, e2]; rfl
theorem F39_eq (s : Sc) : F39 (s, ()) = tgtR (tgt s) ∧ G39 (s, ()) = true := ofE (E39_eq s)
def eqS (a b : Sc) : Bool := (decide (a.1.1 = b.1.1) && tt 1 (decide (a.1.2.1 = b.1.2.1))) && (decide (a.2.1 = b.2.1) && tt 1 (decide (a.2.2.1 = b.2.2.1)))
theorem eqS_iff {a b : Sc} : eqS a b = true ↔ a = b := by
  obtain ⟨⟨a1, a2, _⟩, a3, a4, _⟩ := a
  obtain ⟨⟨b1, b2, _⟩, b3, b4, _⟩ := b
  simp [eqS]
theorem eqS_self (a : Sc) : eqS a a = true := eqS_iff.2 rfl
def chk (s : Sc) : Bool := match tgt s with | some t => eqS t s | none => false
theorem E19_eq (s : Sc) : E19 (s, ()) = some (chk s) := by
  show S19 F18 G18 s = _
  unfold S19 chk
  rw [(F18_eq s).1, (F18_eq s).2]
  cases tgt s <;> rfl
theorem F19_eq (s : Sc) : F19 (s, ()) = chk s ∧ G19 (s, ()) = true := ofE (E19_eq s)
def cns (v : Int) : Sc := ((v, 0, ()), v, v, ())
theorem F20_eq (v : Int) : F20 (v, ()) = cns v ∧ G20 (v, ()) = true := ⟨rfl, rfl⟩
def prep (s : Sc) : Sc := if s.2.1 > s.2.2.1 then ((iandn .u64 s.1.1 s.1.2.1, s.1.2), s.2.2.1, s.2.1, s.2.2.2) else ((iandn .u64 s.1.1 s.1.2.1, s.1.2), s.2)
def wideF (s : Sc) : Sc := match tgt (prep s) with | some t => if chk t = true then t else cns (iandn .u64 s.1.1 s.1.2.1) | none => cns (iandn .u64 s.1.1 s.1.2.1)
theorem E7_eq (s : Sc) : E7 (s, ()) = some (wideF s) := by
  show S7 F18 G18 F19 G19 F20 G20 s = _
  unfold S7 wideF prep
  by_cases h : s.2.1 > s.2.2.1
  · rw [if_pos h]
    refine (bif_t (decide_eq_true h)).trans ?_
    rw [(F18_eq _).1, (F18_eq _).2, (F20_eq _).1, (F20_eq _).2]
    cases hx : tgt ((iandn .u64 s.1.1 s.1.2.1, s.1.2), s.2.2.1, s.2.1, s.2.2.2) with
    | none => rfl
    | some t =>
      show (bif true then (bif F19 (t, ()) then _ else _) else _) = _
      simp only [tgtR, (F19_eq t).1, (F19_eq t).2]
      cases chk t <;> rfl
  · rw [if_neg h]
    refine (bif_f (decide_eq_false h)).trans ?_
    rw [(F18_eq _).1, (F18_eq _).2, (F20_eq _).1, (F20_eq _).2]
    cases hx : tgt ((iandn .u64 s.1.1 s.1.2.1, s.1.2), s.2) with
    | none => rfl
    | some t =>
      show (bif true then (bif F19 (t, ()) then _ else _) else _) = _
      simp only [tgtR, (F19_eq t).1, (F19_eq t).2]
      cases chk t <;> rfl
theorem F7_eq (s : Sc) : F7 (s, ()) = wideF s ∧ G7 (s, ()) = true := ofE (E7_eq s)
/-! ## The lowest bits -/
def mst (w : Int) : Int := if w = 8 then 255 else if w = 16 then 65535 else 4294967295
def isW (w : Int) : Prop := w = 8 ∨ w = 16 ∨ w = 32
instance (w : Int) : Decidable (isW w) := by unfold isW; exact inferInstance
def castT (t : Tn) (w : Int) : Tn := if isW w then (iand .u64 t.1 (mst w), iand .u64 t.2.1 (mst w), ()) else t
def tg (s : Sc) : Sc := (tgtR (tgt s)).1
def castS (s : Sc) (w : Int) : Sc := if isW w then (if s.2.2.1 > mst w then tg (castT s.1 w, 0, mst w, ()) else tg (castT s.1 w, s.2.1, s.2.2.1, ())) else s
theorem E22_eq (s : Sc) : E22 (s, ()) = some (if s.1.2.1 = 0 then (s.1.1, true, ()) else (0, false, ())) := by
  show S22 s = _
  unfold S22
  rw [Bool.cond_decide]; split <;> rfl
theorem E41_eq (s : Sc) : E41 (s, ()) = some (if s.1.2.1 = 0 then (s.1.1, true, ()) else (0, false, ())) := by
  show S41 s = _
  unfold S41
  by_cases h : s.1.2.1 = 0
  · rw [if_pos h]; exact bif_f (by rw [decide_eq_true h]; rfl)
  · rw [if_neg h]; exact bif_t (by rw [decide_eq_false h]; rfl)
def onl (s : Sc) : Int × Bool × Unit := if s.1.2.1 = 0 then (s.1.1, true, ()) else (0, false, ())
theorem F22_eq (s : Sc) : F22 (s, ()) = onl s ∧ G22 (s, ()) = true := ofE (E22_eq s)
theorem F41_eq (s : Sc) : F41 (s, ()) = onl s ∧ G41 (s, ()) = true := ofE (E41_eq s)
/-! ## Which numbers a scalar has -/
def hasT (t : Tn) (n : Int) : Bool := decide (iandn .u64 n t.2.1 = iandn .u64 t.1 t.2.1)
theorem hasT_iff {t : Tn} {n : Int} : hasT t n = true ↔ ∀ i, bit t.2.1 i = false → bit n i = bit t.1 i := by
  unfold hasT
  rw [decide_eq_true_eq, eq_bits (inR_iandn _ _) (inR_iandn _ _)]
  constructor
  · intro h i hi
    have := h i
    rw [bit_iandn, bit_iandn, hi] at this
    simpa using this
  · intro h i
    rw [bit_iandn, bit_iandn]
    cases hi : bit t.2.1 i
    · rw [h i hi]
    · simp
theorem hasT' {t : Tn} {n : Int} : decide (iandn .u64 (ixor .u64 n t.1) t.2.1 = 0) = hasT t n := by
  rw [Bool.eq_iff_iff, hasT_iff, decide_eq_true_eq, eq0_bits (inR_iandn _ _)]
  constructor
  · intro h i hi
    have := h i
    rw [bit_iandn, bit_ixor, hi] at this
    cases hx : bit n i <;> cases hy : bit t.1 i <;> simp_all
  · intro h i
    rw [bit_iandn, bit_ixor]
    cases hi : bit t.2.1 i
    · rw [h i hi]; simp
    · simp
def hasS (s : Sc) (n : Int) : Bool := decide (s.2.1 ≤ n) && (decide (n ≤ s.2.2.1) && hasT s.1 n)
theorem hasS_iff {s : Sc} {n : Int} : hasS s n = true ↔ s.2.1 ≤ n ∧ n ≤ s.2.2.1 ∧ hasT s.1 n = true := by
  unfold hasS; simp only [Bool.and_eq_true, decide_eq_true_eq]
theorem F35_eq (t : Tn) (n : Int) : F35 (t, n, ()) = hasT t n ∧ G35 (t, n, ()) = true := ⟨hasT', rfl⟩
theorem E17_eq (s : Sc) (n : Int) : E17 (s, n, ()) = some (hasS s n) := by
  show S17 F35 G35 s n = _
  unfold S17 hasS
  rw [(F35_eq _ _).1, (F35_eq _ _).2]
  rw [show decide (n ≥ s.2.1) = decide (s.2.1 ≤ n) from rfl]
  cases decide (s.2.1 ≤ n) <;> cases decide (n ≤ s.2.2.1) <;> cases hasT s.1 n <;> rfl
theorem F17_eq (s : Sc) (n : Int) : F17 (s, n, ()) = hasS s n ∧ G17 (s, n, ()) = true := ofE (E17_eq s n)
/-! ## in range -/
theorem RS_rnd {s s' : Sc} (h : RS s) (hr : rnd s = some s') : RS s' := by
  unfold rnd at hr
  split at hr
  · split at hr
    · cases hr
      refine ⟨⟨inR_iandn _ _, inR_iand _ _⟩, ?_, ?_⟩
      · show InR (mnF s); unfold mnF; split
        · exact h.1.1
        · exact h.2.1
      · show InR (mxF s); unfold mxF; split
        · exact inR_ior _ _
        · exact h.2.2
    · cases hr
  · cases hr
theorem RS_rnds {n : Nat} {s t : Sc} (h : RS s) (hr : rnds n s = some t) : RS t := by
  induction n generalizing s with
  | zero => cases hr; exact h
  | succ n ih =>
    rw [rnds, Option.bind_eq_some_iff] at hr
    obtain ⟨s', h1, h2⟩ := hr
    exact ih (RS_rnd h h1) h2
theorem RS_tgt {s t : Sc} (h : RS s) (hr : tgt s = some t) : RS t := by
  unfold tgt at hr
  split at hr
  · exact RS_rnds h hr
  · cases hr
theorem RS_cns {v : Int} (h : InR v) : RS (cns v) := ⟨⟨h, inR0⟩, h, h⟩
theorem RS_prep {s : Sc} (h : RS s) : RS (prep s) := by
  unfold prep; split
  · exact ⟨⟨inR_iandn _ _, h.1.2⟩, h.2.2, h.2.1⟩
  · exact ⟨⟨inR_iandn _ _, h.1.2⟩, h.2.1, h.2.2⟩
theorem RS_wide {s : Sc} (h : RS s) : RS (wideF s) := by
  unfold wideF
  split
  · rename_i t ht
    split
    · exact RS_tgt (RS_prep h) ht
    · exact RS_cns (inR_iandn _ _)
  · exact RS_cns (inR_iandn _ _)
/-! ## In -/
def inT (a b : Tn) : Bool := decide (ior .u64 a.2.1 b.2.1 = a.2.1) && hasT a b.1
theorem inT_mask {a b : Tn} (ha : InR a.2.1) : decide (iandn .u64 b.2.1 a.2.1 = 0) = decide (ior .u64 a.2.1 b.2.1 = a.2.1) := by
  rw [decide_eq_decide, eq0_bits (inR_iandn _ _), eq_bits (inR_ior _ _) ha]
  constructor
  · intro h i
    have := h i
    rw [bit_iandn] at this
    rw [bit_ior]
    cases hx : bit a.2.1 i <;> cases hy : bit b.2.1 i <;> simp_all
  · intro h i
    have := h i
    rw [bit_ior] at this
    rw [bit_iandn]
    cases hx : bit a.2.1 i <;> cases hy : bit b.2.1 i <;> simp_all
theorem ixor_comm (a b : Int) : ixor .u64 a b = ixor .u64 b a := by rw [ixor_n, ixor_n, Nat.xor_comm]
def inS (a b : Sc) : Bool := decide (a.2.1 ≤ b.2.1) && (decide (a.2.2.1 ≥ b.2.2.1) && inT a.1 b.1)
theorem inS_self {a : Sc} (h : RS a) : inS a a = true := by
  unfold inS inT
  have : hasT a.1 a.1.1 = true := hasT_iff.2 fun i _ => rfl
  rw [this]
  have h2 : ior .u64 a.1.2.1 a.1.2.1 = a.1.2.1 := bits_eq (inR_ior _ _) h.1.2 (fun i => by rw [bit_ior, Bool.or_self])
  simp [h2]
def unk : Sc := ((0, 18446744073709551615, ()), 0, 18446744073709551615, ())
theorem bit_all {i : Nat} (h : i < 64) : bit 18446744073709551615 i = true := by
  have := bit_msk (k := 64) (i := i) (by omega)
  rw [show msk 64 = 18446744073709551615 from rfl] at this
  rw [this]; simpa using h
theorem inS_unk {a : Sc} (h : RS a) : inS unk a = true := by
  unfold inS inT unk
  have h1 : hasT (0, 18446744073709551615, ()) a.1.1 = true := hasT_iff.2 fun i hi => by
    by_cases h : i < 64
    · rw [bit_all h] at hi; cases hi
    · rw [bit_hi a.1.1 (by omega), bit0]
  have h2 : ior .u64 18446744073709551615 a.1.2.1 = 18446744073709551615 := bits_eq (inR_ior _ _) (by unfold InR; omega) (fun i => by
    rw [bit_ior]
    by_cases h : i < 64
    · rw [bit_all h]; rfl
    · rw [bit_hi _ (by omega), bit_hi _ (by omega)]; rfl)
  have h3 := h.2.1; have h4 := h.2.2
  unfold InR at h3 h4
  rw [h1, h2]
  simp only [decide_true, Bool.and_true, Bool.and_eq_true, decide_eq_true_eq, and_true]
  exact ⟨h3.1, by omega⟩
/-! ## What is made tight has the same numbers -/
def mayT (t : Tn) : Prop := ∀ i, (bit t.1 i && bit t.2.1 i) = false
theorem may_iff {s : Sc} : may s = true ↔ mayT s.1 := by
  unfold may mayT
  rw [decide_eq_true_eq, eq0_bits (inR_iand _ _)]
  exact forall_congr' fun i => by rw [bit_iand]
theorem u_mono {a b : Int} (ha : InR a) (hb : InR b) : a ≤ b ↔ u a ≤ u b := by
  have h1 := u_of ha; have h2 := u_of hb
  omega
theorem has_ge {t : Tn} {n : Int} (ht : RT t) (hn : InR n) (hm : mayT t) (h : hasT t n = true) : t.1 ≤ n := by
  rw [u_mono ht.1 hn]
  have : u n = u t.1 ||| u n := by
    apply Nat.eq_of_testBit_eq
    intro i
    rw [Nat.testBit_or]
    show bit n i = (bit t.1 i || bit n i)
    have h1 := hm i
    cases hi : bit t.2.1 i
    · rw [hasT_iff.1 h i hi]; simp
    · rw [hi] at h1; simp at h1; rw [h1]; simp
  rw [this]; exact Nat.left_le_or
theorem has_le {t : Tn} {n : Int} (ht : RT t) (hn : InR n) (h : hasT t n = true) : n ≤ ior .u64 t.1 t.2.1 := by
  rw [u_mono hn (inR_ior _ _)]
  have : u (ior .u64 t.1 t.2.1) = u n ||| u (ior .u64 t.1 t.2.1) := by
    apply Nat.eq_of_testBit_eq
    intro i
    rw [Nat.testBit_or]
    show bit (ior .u64 t.1 t.2.1) i = (bit n i || bit (ior .u64 t.1 t.2.1) i)
    rw [bit_ior]
    cases hi : bit t.2.1 i
    · rw [hasT_iff.1 h i hi]; simp
    · simp
  rw [this]; exact Nat.left_le_or
theorem bit_mOf {lo hi : Int} {i : Nat} : bit (mOf lo hi) i = decide (i < len (u lo ^^^ u hi)) := bit_msk (len_le (xor_lt lo hi))
/-- numbers between two have the bits that the two share above -/
theorem of_has {lo hi n : Int} (hl : InR lo) (hh : InR hi) (hn : InR n) (h1 : lo ≤ n) (h2 : n ≤ hi) : hasT (ofF lo hi) n = true := by
  have g1 := (u_mono hl hn).1 h1
  have g2 := (u_mono hn hh).1 h2
  have hb := (BL_len (u lo ^^^ u hi)).1
  generalize hk : len (u lo ^^^ u hi) = k at hb
  have hq : u lo / 2 ^ k = u hi / 2 ^ k := by
    apply Nat.eq_of_testBit_eq
    intro i
    rw [Nat.testBit_div_two_pow, Nat.testBit_div_two_pow]
    have h0 : (u lo ^^^ u hi).testBit (i + k) = false := Nat.testBit_lt_two_pow (Nat.lt_of_lt_of_le hb (Nat.pow_le_pow_right (by omega) (by omega)))
    rw [Nat.testBit_xor] at h0
    cases h3 : (u lo).testBit (i + k) <;> cases h4 : (u hi).testBit (i + k) <;> simp_all
  have q1 : u lo / 2 ^ k ≤ u n / 2 ^ k := Nat.div_le_div_right g1
  have q2 : u n / 2 ^ k ≤ u hi / 2 ^ k := Nat.div_le_div_right g2
  have hq2 : u n / 2 ^ k = u lo / 2 ^ k := by omega
  refine hasT_iff.2 fun i hz => ?_
  have hz : bit (mOf lo hi) i = false := hz
  rw [bit_mOf, hk] at hz
  have hki : k ≤ i := by simpa using hz
  show bit n i = bit (iandn .u64 lo (mOf lo _)) i
  rw [bit_iandn, bit_mOf, hk, decide_eq_false (by omega : ¬ i < k)]
  have h5 := congrArg (fun x => x.testBit (i - k)) hq2
  simp only [Nat.testBit_div_two_pow] at h5
  rw [show i - k + k = i by omega] at h5
  show (u n).testBit i = ((u lo).testBit i && true)
  rw [h5, Bool.and_true]
theorem mayT_of (lo hi : Int) : mayT (ofF lo hi) := fun i => by
  show (bit (iandn .u64 lo (mOf lo hi)) i && bit (mOf lo hi) i) = false
  rw [bit_iandn]; cases bit (mOf lo hi) i <;> simp
theorem RT_of (lo hi : Int) : RT (ofF lo hi) := ⟨inR_iandn _ _, inR_msk (len_le (xor_lt lo hi))⟩
theorem metB_iff {a b : Tn} : metB a b = true ↔ ∀ i, bit a.2.1 i = false → bit b.2.1 i = false → bit a.1 i = bit b.1 i := by
  unfold metB
  rw [decide_eq_true_eq, eq0_bits (inR_iandn _ _)]
  refine forall_congr' fun i => ?_
  rw [bit_iandn, bit_ixor, bit_ior]
  cases bit a.2.1 i <;> cases bit b.2.1 i <;> cases bit a.1 i <;> cases bit b.1 i <;> simp
theorem met_of {a b : Tn} {n : Int} (h1 : hasT a n = true) (h2 : hasT b n = true) (ma : mayT a) (mb : mayT b) : metB a b = true ∧ hasT (metF a b) n = true := by
  rw [hasT_iff] at h1 h2
  refine ⟨metB_iff.2 fun i ha hb => by rw [← h1 i ha, h2 i hb], hasT_iff.2 fun i hi => ?_⟩
  have hi : bit (iand .u64 a.2.1 b.2.1) i = false := hi
  show bit n i = bit (iandn .u64 (ior .u64 a.1 b.1) (iand .u64 a.2.1 b.2.1)) i
  rw [bit_iandn, hi, bit_ior]
  rw [bit_iand] at hi
  have m1 := ma i; have m2 := mb i
  cases ha : bit a.2.1 i <;> cases hb : bit b.2.1 i <;> rw [ha] at m1 hi <;> rw [hb] at m2 hi
  · rw [← h1 i ha, ← h2 i hb]; simp
  · rw [← h1 i ha]; simp at m2; rw [m2]; simp
  · rw [← h2 i hb]; simp at m1; rw [m1]; simp
  · cases hi
theorem of_met {a b : Tn} {n : Int} (h0 : metB a b = true) (h : hasT (metF a b) n = true) (ma : mayT a) (mb : mayT b) : hasT a n = true := by
  rw [hasT_iff] at h
  refine hasT_iff.2 fun i ha => ?_
  have h1 : bit (iand .u64 a.2.1 b.2.1) i = false := by rw [bit_iand, ha]; rfl
  have h2 : bit n i = bit (iandn .u64 (ior .u64 a.1 b.1) (iand .u64 a.2.1 b.2.1)) i := h i h1
  rw [bit_iandn, h1, bit_ior] at h2
  rw [h2]
  have m2 := mb i
  cases hb : bit b.2.1 i <;> rw [hb] at m2
  · rw [← metB_iff.1 h0 i ha hb]; simp
  · simp at m2; rw [m2]; simp
theorem mayT_met {a b : Tn} : mayT (metF a b) := fun i => by
  show (bit (iandn .u64 (ior .u64 a.1 b.1) (iand .u64 a.2.1 b.2.1)) i && bit (iand .u64 a.2.1 b.2.1) i) = false
  rw [bit_iandn]; cases bit (iand .u64 a.2.1 b.2.1) i <;> simp
theorem mn_le (s : Sc) {n : Int} : mnF s ≤ n ↔ s.1.1 ≤ n ∧ s.2.1 ≤ n := by unfold mnF; split <;> omega
theorem le_mx (s : Sc) {n : Int} : n ≤ mxF s ↔ n ≤ ior .u64 s.1.1 s.1.2.1 ∧ n ≤ s.2.2.1 := by unfold mxF; split <;> omega
theorem inR_mn {s : Sc} (h : RS s) : InR (mnF s) := by
  unfold mnF; split
  · exact h.1.1
  · exact h.2.1
theorem inR_mx {s : Sc} (h : RS s) : InR (mxF s) := by
  unfold mxF; split
  · exact inR_ior _ _
  · exact h.2.2
theorem keep1 {s : Sc} {n : Int} (hs : RS s) (hm : mayT s.1) (hn : InR n) : hasS s n = true ↔ ∃ t, rnd s = some t ∧ hasS t n = true := by
  unfold rnd
  constructor
  · intro h
    obtain ⟨h1, h2, h3⟩ := hasS_iff.1 h
    have g1 := has_ge hs.1 hn hm h3
    have g2 := has_le hs.1 hn h3
    have k1 := (mn_le s).2 ⟨g1, h1⟩
    have k2 := (le_mx s).2 ⟨g2, h2⟩
    obtain ⟨q1, q2⟩ := met_of h3 (of_has (inR_mn hs) (inR_mx hs) hn k1 k2) hm (mayT_of _ _)
    rw [if_pos (by omega), if_pos q1]
    exact ⟨_, rfl, hasS_iff.2 ⟨k1, k2, q2⟩⟩
  · rintro ⟨t, ht, h⟩
    split at ht
    · split at ht
      · rename_i q1
        cases ht
        obtain ⟨h1, h2, h3⟩ := hasS_iff.1 h
        exact hasS_iff.2 ⟨((mn_le s).1 h1).2, ((le_mx s).1 h2).2, of_met q1 h3 hm (mayT_of _ _)⟩
      · cases ht
    · cases ht
theorem may_rnd {s t : Sc} (h : rnd s = some t) : mayT t.1 := by
  unfold rnd at h
  split at h
  · split at h
    · cases h; exact mayT_met
    · cases h
  · cases h
theorem keeps {n : Int} (hn : InR n) : ∀ (k : Nat) {s : Sc}, RS s → mayT s.1 → (hasS s n = true ↔ ∃ t, rnds k s = some t ∧ hasS t n = true)
  | 0, s, hs, hm => ⟨fun h => ⟨s, rfl, h⟩, fun ⟨t, ht, h⟩ => by cases ht; exact h⟩
  | k + 1, s, hs, hm => by
    rw [keep1 hs hm hn]
    constructor
    · rintro ⟨s', h1, h2⟩
      obtain ⟨t, h3, h4⟩ := (keeps hn k (RS_rnd hs h1) (may_rnd h1)).1 h2
      exact ⟨t, by rw [rnds, h1]; exact h3, h4⟩
    · rintro ⟨t, h1, h2⟩
      rw [rnds, Option.bind_eq_some_iff] at h1
      obtain ⟨s', h3, h4⟩ := h1
      exact ⟨s', h3, (keeps hn k (RS_rnd hs h3) (may_rnd h3)).2 ⟨t, h4, h2⟩⟩
theorem keep {s : Sc} {n : Int} (hs : RS s) (hm : may s = true) (hn : InR n) : hasS s n = true ↔ ∃ t, tgt s = some t ∧ hasS t n = true := by
  unfold tgt
  rw [if_pos hm]
  exact keeps hn 3 hs (may_iff.1 hm)
/-- the law's own way to say it -/
theorem keepB {s : Sc} {n : Int} (hs : RS s) (hm : may s = true) (hn : InR n) : hasS s n = ((tgtR (tgt s)).2.1 && hasS (tgtR (tgt s)).1 n) := by
  rw [Bool.eq_iff_iff, keep hs hm hn, Bool.and_eq_true]
  cases h : tgt s with
  | none => simp [tgtR]
  | some t => simp [tgtR]
/-! ## One -/
theorem V15_in {l : List Int} {s : Sc} {i : Nat} (hl : l.length = 5) (hi : i < l.length) : V15_0 ((), l, (i : Int), s, ()) = some (if hasS s (l.getD i 0) = true then .inr (.inr (l.getD i 0, true, ())) else .inl ((), l, ((i + 1 : Nat) : Int), s, ())) := by
  unfold V15_0 R15_0
  dsimp only
  rw [show 0 + Int.toNat (i : Int) = i by omega, (F17_eq _ _).1, (F17_eq _ _).2, wi64 (a := (i : Int) + 1) (by omega), sec_full rfl]
  refine (bif_t (decide_eq_true (by omega))).trans ?_
  cases hasS s (l.getD i 0)
  · refine (bif_f rfl).trans ((bif_t ?_).trans rfl)
    simp only [tt_eq, Bool.and_eq_true, decide_eq_true_eq, true_and, and_true]; omega
  · refine (bif_t rfl).trans ((bif_t ?_).trans rfl)
    simp only [tt_eq, Bool.and_eq_true, decide_eq_true_eq, true_and, and_true]; omega
theorem V15_end {l : List Int} {s : Sc} : V15_0 ((), l, (l.length : Int), s, ()) = some (.inr (.inl ())) := by
  unfold V15_0 R15_0
  exact bif_f (decide_eq_false (by dsimp only; omega))
theorem E15_ex (s : Sc) (n : Int) : ∃ x ok, E15 (s, n, ()) = some (x, ok, ()) ∧ (ok = true → hasS s x = true) := by
  show ∃ x ok, S15 F17 G17 W15_0 Q15_0 s n = some (x, ok, ()) ∧ _
  unfold S15
  generalize hl : [ior .u64 s.1.1 (iand .u64 n s.1.2.1), s.2.1, s.2.2.1, s.1.1, ior .u64 s.1.1 s.1.2.1] = l
  have h5 : l.length = 5 := by rw [← hl]; rfl
  rcases first_bad (fun i => !hasS s (l.getD i 0)) l.length with h | ⟨j, h1, h2, h3⟩
  · have hw := (wh_steps (f := V15_0) (fun i => ((), l, (i : Int), s, ())) l.length (fun i hi => by
      have := h i hi
      rw [V15_in h5 hi, if_neg (by simpa using this)])).trans (wh_stop V15_end)
    have e1 : W15_0 ((), l, 0, s, ()) = .inl () := whV_of (hd := hd15_0) (ys := ys15_0) hw
    have e2 : Q15_0 ((), l, 0, s, ()) = true := whK_of (hd := hd15_0) (ys := ys15_0) hw
    rw [e1, e2]
    exact ⟨0, false, rfl, fun h => by cases h⟩
  · have h3 : hasS s (l.getD j 0) = true := by simpa using h3
    have hw := (wh_steps (f := V15_0) (fun i => ((), l, (i : Int), s, ())) j (fun i hi => by
      have := h2 i hi
      rw [V15_in h5 (by omega), if_neg (by simpa using this)])).trans (wh_stop (by rw [V15_in h5 h1, if_pos h3]))
    have e1 : W15_0 ((), l, 0, s, ()) = .inr (l.getD j 0, true, ()) := whV_of (hd := hd15_0) (ys := ys15_0) hw
    have e2 : Q15_0 ((), l, 0, s, ()) = true := whK_of (hd := hd15_0) (ys := ys15_0) hw
    rw [e1, e2]
    exact ⟨_, true, rfl, fun _ => h3⟩
/-! ## The lowest bits of a number -/
theorem has_inR {s : Sc} {n : Int} (hs : RS s) (h : hasS s n = true) : InR n := by
  obtain ⟨h1, h2, _⟩ := hasS_iff.1 h
  have g1 := hs.2.1; have g2 := hs.2.2
  unfold InR at *; omega
theorem may_cns (v : Int) : may (cns v) = true := may_iff.2 fun i => by
  show (bit v i && bit 0 i) = false
  rw [bit0]; simp
theorem may_tgt {s t : Sc} (h : tgt s = some t) : may t = true := by
  unfold tgt at h
  split at h
  · rw [show (3 : Nat) = 2 + 1 from rfl, rnds, Option.bind_eq_some_iff] at h
    obtain ⟨s1, h1, h⟩ := h
    rw [show (2 : Nat) = 1 + 1 from rfl, rnds, Option.bind_eq_some_iff] at h
    obtain ⟨s2, h2, h⟩ := h
    rw [show (1 : Nat) = 0 + 1 from rfl, rnds, Option.bind_eq_some_iff] at h
    obtain ⟨s3, h3, h⟩ := h
    cases h
    exact may_iff.2 (may_rnd h3)
  · cases h
theorem may_wide (s : Sc) : may (wideF s) = true := by
  unfold wideF
  split
  · rename_i t ht
    split
    · exact may_tgt ht
    · exact may_cns _
  · exact may_cns _
theorem mst_msk {w : Int} (h : isW w) : ∃ k : Nat, k ≤ 32 ∧ mst w = msk k ∧ (w = 8 ∧ k = 8 ∨ w = 16 ∧ k = 16 ∨ w = 32 ∧ k = 32) := by
  rcases h with rfl | rfl | rfl
  · exact ⟨8, by omega, rfl, .inl ⟨rfl, rfl⟩⟩
  · exact ⟨16, by omega, rfl, .inr (.inl ⟨rfl, rfl⟩)⟩
  · exact ⟨32, by omega, rfl, .inr (.inr ⟨rfl, rfl⟩)⟩
theorem and_le (x : Int) {k : Nat} (hk : k ≤ 64) : 0 ≤ iand .u64 x (msk k) ∧ iand .u64 x (msk k) ≤ msk k := by
  refine ⟨(inR_iand _ _).1, ?_⟩
  rw [iand_n]
  have : u (msk k) = 2 ^ k - 1 := by
    unfold msk; rw [u_cast]
    have : 2 ^ k ≤ 2 ^ 64 := Nat.pow_le_pow_right (by omega) hk
    have : 0 < 2 ^ k := Nat.pow_pos (by omega)
    omega
  rw [this]
  have := @Nat.and_le_right (u x) (2 ^ k - 1)
  unfold msk
  exact_mod_cast this
theorem and_id {x : Int} {k : Nat} (hk : k ≤ 64) (hx : InR x) (h : x ≤ msk k) : iand .u64 x (msk k) = x := by
  refine bits_eq (inR_iand _ _) hx fun i => ?_
  rw [bit_iand, bit_msk hk]
  by_cases hi : i < k
  · simp [hi]
  · rw [decide_eq_false hi, Bool.and_false]
    symm
    have hux : u x < 2 ^ k := by
      have := u_of hx
      have h0 : 0 < 2 ^ k := Nat.pow_pos (by omega)
      unfold msk at h; omega
    exact Nat.testBit_lt_two_pow (Nat.lt_of_lt_of_le hux (Nat.pow_le_pow_right (by omega) (by omega)))
theorem cast_has {s : Sc} {w x : Int} (hs : RS s) (hm : may s = true) (hw : isW w) (h : hasS s x = true) : hasS (castS s w) (iand .u64 x (mst w)) = true := by
  obtain ⟨k, hk, hmk, _⟩ := mst_msk hw
  obtain ⟨h1, h2, h3⟩ := hasS_iff.1 h
  have hx := has_inR hs h
  have hT : castT s.1 w = (iand .u64 s.1.1 (msk k), iand .u64 s.1.2.1 (msk k), ()) := by unfold castT; rw [if_pos hw, hmk]
  have hmm : mayT (castT s.1 w) := fun i => by
    rw [hT]
    show (bit (iand .u64 s.1.1 (msk k)) i && bit (iand .u64 s.1.2.1 (msk k)) i) = false
    have := may_iff.1 hm i
    rw [bit_iand, bit_iand]
    revert this
    cases bit s.1.1 i <;> cases bit s.1.2.1 i <;> simp
  have hh : hasT (castT s.1 w) (iand .u64 x (msk k)) = true := hasT_iff.2 fun i hi => by
    rw [hT] at hi ⊢
    have hi : bit (iand .u64 s.1.2.1 (msk k)) i = false := hi
    show bit (iand .u64 x (msk k)) i = bit (iand .u64 s.1.1 (msk k)) i
    rw [bit_iand] at hi
    rw [bit_iand, bit_iand]
    cases hb : bit (msk k) i
    · simp
    · rw [hb] at hi
      rw [hasT_iff.1 h3 i (by simpa using hi)]
  have hRT : RT (castT s.1 w) := by rw [hT]; exact ⟨inR_iand _ _, inR_iand _ _⟩
  have hmk' := inR_msk (show k ≤ 64 by omega)
  have hy := and_le x (show k ≤ 64 by omega)
  have use : ∀ r : Sc, RS r → may r = true → hasS r (iand .u64 x (msk k)) = true → hasS (tg r) (iand .u64 x (msk k)) = true := fun r h1 h2 h3 => by
    have := keepB h1 h2 (inR_iand x (msk k))
    rw [h3] at this
    have := this.symm
    rw [Bool.and_eq_true] at this
    exact this.2
  unfold castS
  rw [if_pos hw, hmk]
  split
  · exact use _ ⟨hRT, inR0, hmk'⟩ (may_iff.2 hmm) (hasS_iff.2 ⟨hy.1, hy.2, hh⟩)
  · rename_i hc
    rw [and_id (by omega) hx (by omega)] at hh ⊢
    have := use (castT s.1 w, s.2.1, s.2.2.1, ()) ⟨hRT, hs.2.1, hs.2.2⟩ (may_iff.2 hmm)
    rw [and_id (by omega) hx (by omega)] at this
    exact this (hasS_iff.2 ⟨h1, h2, hh⟩)
end Go.Proofs
