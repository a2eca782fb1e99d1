import Derived.Test.YtfhpihomdnbgpaaI
import Derived.Test.YtfhpihomdnbgpaaGd
namespace Go.Proofs
open Go.GX
set_option linter.unusedVariables false
set_option linter.unusedSimpArgs false
abbrev Tn := Int × Int × Unit
abbrev Sc := Tn × Int × Int × Unit
def len (n : Nat) : Nat := if n = 0 then 0 else Nat.log2 n + 1
theorem BL_len (n : Nat) : BL n (len n) := by
 unfold len
 by_cases h : n = 0
 ·rw [if_pos h]; subst h; exact ⟨by decide, .inl rfl⟩
 ·rw [if_neg h]
  exact ⟨Nat.lt_log2_self, .inr (Nat.log2_self_le h)⟩
theorem len_le {n : Nat} (h : n < 2 ^ 64) : len n ≤ 64 := by
 have hb := BL_len n
 rcases hb.2 with e | e
 ·omega
 ·have : ¬ 64 ≤ len n - 1 := by
   intro hh
   have := Nat.pow_le_pow_right (show 0 < 2 by omega) hh
   omega
  omega
def msk (k : Nat) : Int := ((2 ^ k - 1 : Nat) : Int)
def mOf (lo hi : Int) : Int := msk (len (u lo ^^^ u hi))
def ofF (lo hi : Int) : Tn := (iandn .u64 lo (mOf lo hi), mOf lo hi, ())
theorem xor_lt (lo hi : Int) : u lo ^^^ u hi < 2 ^ 64 := Nat.xor_lt_two_pow (u_lt _) (u_lt _)
theorem one_shl {L : Nat} (h : L ≤ 64) : IntKind.wrap .u64 (ishl .u64 1 (L : Int) - 1) = msk L := by
 unfold ishl msk
 rw [show IntKind.bits .u64 = 64 from rfl, show (min ((L : Int).toNat) 64) = L by omega]
 have hc : ((2 : Int) ^ L) = ((2 ^ L : Nat) : Int) := by rw [Int.natCast_pow]; rfl
 rw [hc, wrap_u64, wrap_u64]
 have h0 : 0 < 2 ^ L := Nat.pow_pos (by omega)
 by_cases e : L = 64
 ·subst e; decide
 ·have : 2 ^ L ≤ 2 ^ 63 := Nat.pow_le_pow_right (by omega) (by omega)
  omega
theorem V64_run (lo : Int) (t : Tn) : ∀ (k x j : Nat), BL x k → j + k ≤ 64 → wh V64_0 (lo, (), (x : Int), msk j, t, ()) = some (lo, (), msk (j + k), t, ())
 | 0, x, j, hb, _ => by
  have : x = 0 := by have := hb.1; simpa using this
  subst this
  exact wh_stop rfl
 | k + 1, x, j, hb, hj => by
  have h0 : x ≠ 0 := by
   intro h; subst h
   rcases hb.2 with e | e
   ·omega
   ·have : 0 < 2 ^ (k + 1 - 1) := Nat.pow_pos (by omega)
    omega
  have hp : 2 ^ j ≤ 2 ^ 63 := Nat.pow_le_pow_right (by omega) (by omega)
  have hp0 : 0 < 2 ^ j := Nat.pow_pos (by omega)
  have hm : ior .u64 (ishl .u64 (msk j) 1) 1 = msk (j + 1) := by
   unfold msk
   have hl : ishl .u64 ((2 ^ j - 1 : Nat) : Int) 1 = ((2 * (2 ^ j - 1) : Nat) : Int) := by
    rw [ishl_k .u64 _ 1 1 2 rfl rfl, wrap_u64]; omega
   rw [hl, ior_n, u_cast _ (by omega), show u 1 = 1 from rfl]
   have := Nat.two_pow_add_eq_or_of_lt (i := 1) (b := 1) (by omega) (2 ^ j - 1)
   rw [Nat.pow_one] at this
   rw [← this, Nat.pow_succ]; omega
  have hsh : ishr .u64 (x : Int) 1 = ((x / 2 : Nat) : Int) := by rw [ishr_k .u64 _ 1 1 2 rfl rfl]; omega
  have hstep : V64_0 (lo, (), (x : Int), msk j, t, ()) = some (.inl (lo, (), ((x / 2 : Nat) : Int), msk (j + 1), t, ())) := by
   show R64_0 _ _ lo () (x : Int) (msk j) t = _
   unfold R64_0
   rw [hsh, hm]
   exact bif_t (by rw [decide_eq_false (by omega)]; rfl)
  have hb' : BL (x / 2) k := by
   refine ⟨?_, ?_⟩
   ·have := hb.1; rw [Nat.pow_succ] at this; omega
   ·by_cases e : k = 0
    ·exact .inl e
    ·right
     rcases hb.2 with e' | e'
     ·omega
     ·rw [show k + 1 - 1 = k - 1 + 1 from by omega, Nat.pow_succ] at e'; omega
  rw [wh_next hstep, V64_run lo t k (x / 2) (j + 1) hb' (by omega), show j + 1 + k = j + (k + 1) by omega]
theorem E64_eq (lo hi : Int) : E64 (lo, hi, ()) = some (ofF lo hi) := by
 show S64 W64_0 Q64_0 lo hi = _
 have hw := V64_run lo (0, 0, ()) (len (u lo ^^^ u hi)) (u lo ^^^ u hi) 0 (BL_len _) (by have := len_le (xor_lt lo hi); omega)
 rw [Nat.zero_add] at hw
 have e1 : W64_0 (lo, (), ((u lo ^^^ u hi : Nat) : Int), 0, (0, 0, ()), ()) = _ := whV_of (hd := hd64_0) (ys := ys64_0) hw
 have e2 : Q64_0 (lo, (), ((u lo ^^^ u hi : Nat) : Int), 0, (0, 0, ()), ()) = true := whK_of (hd := hd64_0) (ys := ys64_0) hw
 unfold S64
 rw [ixor_n, e1, e2]
 rfl
theorem F64_eq (lo hi : Int) : F64 (lo, hi, ()) = ofF lo hi ∧ G64 (lo, hi, ()) = true := ofE (E64_eq lo hi)
def metB (a b : Tn) : Bool := decide (iandn .u64 (ixor .u64 a.1 b.1) (ior .u64 a.2.1 b.2.1) = 0)
def metF (a b : Tn) : Tn := (iandn .u64 (ior .u64 a.1 b.1) (iand .u64 a.2.1 b.2.1), iand .u64 a.2.1 b.2.1, ())
def metR (a b : Tn) : Tn × Bool × Unit := if metB a b = true then (metF a b, true, ()) else ((0, 0, ()), false, ())
theorem iandn_ior (x a b : Int) : iandn .u64 x (ior .u64 a b) = iandn .u64 (iandn .u64 x a) b :=
 bits_eq (inR_iandn _ _) (inR_iandn _ _) (fun i => by rw [bit_iandn, bit_iandn, bit_iandn, bit_ior]; cases bit x i <;> cases bit a i <;> cases bit b i <;> rfl)
theorem E63_eq (a b : Tn) : E63 (a, b, ()) = some (metR a b) := by
 show S63 a b = _
 unfold S63 metR
 cases h : metB a b
 ·rw [if_neg (by simp)]; exact bif_t (by unfold metB at h; rw [iandn_ior] at h; rw [h]; rfl)
 ·rw [if_pos rfl]; exact bif_f (by unfold metB at h; rw [iandn_ior] at h; rw [h]; rfl)
theorem F63_eq (a b : Tn) : F63 (a, b, ()) = metR a b ∧ G63 (a, b, ()) = true := ofE (E63_eq a b)
def max2 (a b : Int) : Int := if a > b then a else b
def min2 (a b : Int) : Int := if a < b then a else b
def mnF (s : Sc) : Int := if s.1.1 > s.2.1 then s.1.1 else s.2.1
def mxF (s : Sc) : Int := if ior .u64 s.1.1 s.1.2.1 < s.2.2.1 then ior .u64 s.1.1 s.1.2.1 else s.2.2.1
def rnd (s : Sc) : Option Sc := if mnF s ≤ mxF s then (if metB s.1 (ofF (mnF s) (mxF s)) = true then some (metF s.1 (ofF (mnF s) (mxF s)), mnF s, mxF s, ()) else none) else none
def rnds : Nat → Sc → Option Sc
 | 0, s => some s
 | n + 1, s => (rnd s).bind (rnds n)
def may (s : Sc) : Bool := decide (iand .u64 s.1.1 s.1.2.1 = 0)
def tgt (s : Sc) : Option Sc := if may s = true then rnds 3 s else none
def z2 : Sc := ((0, 0, ()), 0, 0, ())
def tgtR : Option Sc → Sc × Bool × Unit
 | some t => (t, true, ())
 | none => (((0, 0, ()), 0, 0, ()), false, ())
theorem V49_in {i : Nat} (hi : i < 3) {s s' w : Sc} (h : rnd s = some s') : V49_0 ((), (), (i : Int), s, w, ()) = some (.inl ((), (), ((i + 1 : Nat) : Int), s', w, ())) := by
 unfold V49_0 R49_0
 change (bif decide ((i : Int) < 3) then (bif decide (mnF s > mxF s) then _ else (bif !(F63 (s.1, F64 (mnF s, mxF s, ()), ())).2.1 then _ else (bif tt 2 (G63 (s.1, F64 (mnF s, mxF s, ()), ()) && tt 1 (G64 (mnF s, mxF s, ()))) then some (Sum.inl ((), (), IntKind.wrap .i64 ((i : Int) + 1), ((F63 (s.1, F64 (mnF s, mxF s, ()), ())).1, mnF s, mxF s, _), w, ())) else none))) else _) = _
 unfold rnd at h
 split at h
 ·rename_i h1
  split at h
  ·rename_i h2
   cases h
   rw [(F64_eq (mnF s) (mxF s)).1, (F64_eq (mnF s) (mxF s)).2, (F63_eq s.1 (ofF (mnF s) (mxF s))).1, (F63_eq s.1 (ofF (mnF s) (mxF s))).2]
   unfold metR
   rw [if_pos h2]
   refine (bif_t (decide_eq_true (by omega))).trans ((bif_f (decide_eq_false (by omega))).trans ((bif_f rfl).trans ((bif_t rfl).trans ?_)))
   rw [wi64 (by omega)]
   rfl
  ·cases h
 ·cases h
theorem V49_out {i : Nat} (hi : i < 3) {s w : Sc} (h : rnd s = none) : V49_0 ((), (), (i : Int), s, w, ()) = some (.inr (.inr ((), false, z2, ()))) := by
 unfold V49_0 R49_0
 change (bif decide ((i : Int) < 3) then (bif decide (mnF s > mxF s) then some (Sum.inr (Sum.inr ((), false, z2, ()))) else (bif !(F63 (s.1, F64 (mnF s, mxF s, ()), ())).2.1 then (bif tt 2 (G63 (s.1, F64 (mnF s, mxF s, ()), ()) && tt 1 (G64 (mnF s, mxF s, ()))) then some (Sum.inr (Sum.inr ((), false, z2, ()))) else none) else _)) else _) = _
 refine (bif_t (decide_eq_true (by omega))).trans ?_
 unfold rnd at h
 split at h
 ·rename_i h1
  split at h
  ·cases h
  ·rename_i h2
   rw [(F64_eq (mnF s) (mxF s)).1, (F64_eq (mnF s) (mxF s)).2, (F63_eq s.1 (ofF (mnF s) (mxF s))).1, (F63_eq s.1 (ofF (mnF s) (mxF s))).2]
   unfold metR
   rw [if_neg h2]
   exact (bif_f (decide_eq_false (by omega))).trans ((bif_t rfl).trans (bif_t rfl))
 ·exact bif_t (decide_eq_true (by omega))
theorem V49_end {s w : Sc} : V49_0 ((), (), 3, s, w, ()) = some (.inr (.inl ((), (), s, w, ()))) := rfl
theorem W49_run (s w : Sc) : ∀ (n i : Nat), i + n = 3 → wh V49_0 ((), (), (i : Int), s, w, ()) = some (match rnds n s with | some t => .inl ((), (), t, w, ()) | none => .inr ((), false, z2, ())) := by
 intro n
 induction n generalizing s with
 | zero =>
  intro i hi
  have : i = 3 := by omega
  subst this; exact wh_stop V49_end
 | succ n ih =>
  intro i hi
  cases h : rnd s with
  | none => rw [wh_stop (V49_out (by omega) h)]; simp [rnds, h]
  | some s' => rw [wh_next (V49_in (by omega) h), ih s' (i + 1) (by omega)]; simp [rnds, h]
theorem F62_eq (t : Tn) : F62 (t, ()) = decide (iand .u64 t.1 t.2.1 = 0) ∧ G62 (t, ()) = true := ⟨rfl, rfl⟩
theorem E49_eq (s : Sc) : E49 (s, ()) = some (tgtR (tgt s)) := by
 show S49 F62 G62 F63 G63 F64 G64 W49_0 Q49_0 s = _
 unfold S49
 rw [(F62_eq _).1, (F62_eq _).2]
 unfold tgt
 cases hm : may s
 ·rw [if_neg (by simp)]
  exact (bif_t (by unfold may at hm; rw [hm]; rfl)).trans rfl
 ·rw [if_pos rfl]
  refine (bif_f (by unfold may at hm; rw [hm]; rfl)).trans ?_
  have hw := W49_run s z2 3 0 rfl
  have e2 : Q49_0 ((), (), 0, s, z2, ()) = true := whK_of (hd := hd49_0) (ys := ys49_0) hw
  cases h : rnds 3 s with
  | none =>
   rw [h] at hw
   have e1 : W49_0 ((), (), 0, s, z2, ()) = .inr ((), false, z2, ()) := whV_of (hd := hd49_0) (ys := ys49_0) hw
   unfold z2 at e1 e2
   rw [e1, e2]
   rfl
  | some t =>
   rw [h] at hw
   have e1 : W49_0 ((), (), 0, s, z2, ()) = .inl ((), (), t, z2, ()) := whV_of (hd := hd49_0) (ys := ys49_0) hw
   unfold z2 at e1 e2
   rw [e1, e2]
   rfl
theorem F49_eq (s : Sc) : F49 (s, ()) = tgtR (tgt s) ∧ G49 (s, ()) = true := ofE (E49_eq s)
def eqS (a b : Sc) : Bool := (decide (a.1.1 = b.1.1) && tt 1 (decide (a.1.2.1 = b.1.2.1))) && (decide (a.2.1 = b.2.1) && tt 1 (decide (a.2.2.1 = b.2.2.1)))
def chk (s : Sc) : Bool := match tgt s with | some t => eqS t s | none => false
theorem E27_eq (s : Sc) : E27 (s, ()) = some (chk s) := by
 show S27 F49 G49 s = _
 unfold S27 chk
 rw [(F49_eq s).1, (F49_eq s).2]
 cases tgt s <;> rfl
theorem F27_eq (s : Sc) : F27 (s, ()) = chk s ∧ G27 (s, ()) = true := ofE (E27_eq s)
def mst (w : Int) : Int := if w = 8 then 255 else if w = 16 then 65535 else 4294967295
def isW (w : Int) : Prop := w = 8 ∨ w = 16 ∨ w = 32
instance (w : Int) : Decidable (isW w) := by unfold isW; exact inferInstance
def castT (t : Tn) (w : Int) : Tn := if isW w then (iand .u64 t.1 (mst w), iand .u64 t.2.1 (mst w), ()) else t
def tg (s : Sc) : Sc := (tgtR (tgt s)).1
def castS (s : Sc) (w : Int) : Sc := if isW w then (if s.2.2.1 > mst w then tg (castT s.1 w, 0, mst w, ()) else tg (castT s.1 w, s.2.1, s.2.2.1, ())) else s
end Go.Proofs
