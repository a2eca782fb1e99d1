import Derived.Test.YtlakcjlgjmeefaaGreatGd
/-! An executor for translated code over abstract states, and its soundness. -/
namespace Go.GX
set_option linter.unusedSimpArgs false
set_option linter.unusedVariables false

/-! ## Plain lemmas: whole numbers of a kind, rows, rounds -/
theorem wf_i64 {a : Int} (h : (Lit.int .i64 a).wf = true) : -9223372036854775808 ≤ a ∧ a < 9223372036854775808 := by
  simp [Lit.wf, IntKind.min, IntKind.max, IntKind.signed, IntKind.bits] at h; omega
theorem wf_u64 {a : Int} (h : (Lit.int .u64 a).wf = true) : 0 ≤ a ∧ a < 18446744073709551616 := by
  simp [Lit.wf, IntKind.min, IntKind.max, IntKind.signed, IntKind.bits] at h; omega
theorem wf_u8 {a : Int} (h : (Lit.int .u8 a).wf = true) : 0 ≤ a ∧ a < 256 := by
  simp [Lit.wf, IntKind.min, IntKind.max, IntKind.signed, IntKind.bits] at h; omega
theorem wrap_u8 (a : Int) : IntKind.wrap .u8 a = a % 256 := by simp [IntKind.wrap, IntKind.signed, IntKind.bits]
theorem wrap_u16 (a : Int) : IntKind.wrap .u16 a = a % 65536 := by simp [IntKind.wrap, IntKind.signed, IntKind.bits]
theorem wrap_u32 (a : Int) : IntKind.wrap .u32 a = a % 4294967296 := by simp [IntKind.wrap, IntKind.signed, IntKind.bits]
theorem wrap_u64 (a : Int) : IntKind.wrap .u64 a = a % 18446744073709551616 := by simp [IntKind.wrap, IntKind.signed, IntKind.bits]
theorem wrap_i8 (a : Int) : IntKind.wrap .i8 a = if a % 256 ≥ 128 then a % 256 - 256 else a % 256 := by simp [IntKind.wrap, IntKind.signed, IntKind.bits]
theorem wrap_i16 (a : Int) : IntKind.wrap .i16 a = if a % 65536 ≥ 32768 then a % 65536 - 65536 else a % 65536 := by simp [IntKind.wrap, IntKind.signed, IntKind.bits]
theorem wrap_i32 (a : Int) : IntKind.wrap .i32 a = if a % 4294967296 ≥ 2147483648 then a % 4294967296 - 4294967296 else a % 4294967296 := by simp [IntKind.wrap, IntKind.signed, IntKind.bits]
theorem wrap_i64 (a : Int) : IntKind.wrap .i64 a = if a % 18446744073709551616 ≥ 9223372036854775808 then a % 18446744073709551616 - 18446744073709551616 else a % 18446744073709551616 := by simp [IntKind.wrap, IntKind.signed, IntKind.bits]
theorem wi64 {a : Int} (h : -9223372036854775808 ≤ a ∧ a < 9223372036854775808) : IntKind.wrap .i64 a = a := by rw [wrap_i64]; split <;> omega
theorem wu64 {a : Int} (h : 0 ≤ a ∧ a < 18446744073709551616) : IntKind.wrap .u64 a = a := by rw [wrap_u64]; omega
theorem wi32 {a : Int} (h : -2147483648 ≤ a ∧ a < 2147483648) : IntKind.wrap .i32 a = a := by rw [wrap_i32]; split <;> omega
theorem wi16 {a : Int} (h : -32768 ≤ a ∧ a < 32768) : IntKind.wrap .i16 a = a := by rw [wrap_i16]; split <;> omega
theorem wu8 {a : Int} (h : 0 ≤ a ∧ a < 256) : IntKind.wrap .u8 a = a := by rw [wrap_u8]; omega
theorem wu32 {a : Int} (h : 0 ≤ a ∧ a < 4294967296) : IntKind.wrap .u32 a = a := by rw [wrap_u32]; omega
/-- shifts by a number that is known: n places, p = 2^n -/
theorem ishr_k (k : IntKind) (a y : Int) (n : Nat) (p : Int) (h : min y.toNat k.bits = n) (hp : (2 : Int) ^ n = p) : ishr k a y = a / p := by
  subst hp; subst h
  unfold ishr
  exact Int.fdiv_eq_ediv_of_nonneg _ (Int.le_of_lt (Int.pow_pos (by omega)))
theorem ishl_k (k : IntKind) (a y : Int) (n : Nat) (p : Int) (h : min y.toNat k.bits = n) (hp : (2 : Int) ^ n = p) : ishl k a y = k.wrap (a * p) := by
  subst hp; subst h; rfl
theorem wrap_mod (k : IntKind) (a : Int) : (k.wrap a) % (2 ^ k.bits : Int) = a % (2 ^ k.bits : Int) := by
  cases k <;> simp only [IntKind.wrap, IntKind.signed, IntKind.bits, Bool.false_and, Bool.true_and, decide_eq_true_eq] <;> first | (simp; done) | (simp; split <;> omega) | (split <;> omega)
theorem ofInt_mod {n : Nat} {a b : Int} (h : a % (2 ^ n : Int) = b % (2 ^ n : Int)) : BitVec.ofInt n a = BitVec.ofInt n b := by
  apply BitVec.eq_of_toNat_eq
  rw [BitVec.toNat_ofInt, BitVec.toNat_ofInt]
  congr 1
theorem ofInt_wrap (k : IntKind) (a : Int) : BitVec.ofInt k.bits (k.wrap a) = BitVec.ofInt k.bits a := ofInt_mod (wrap_mod k a)
theorem ior_wl (k : IntKind) (a b : Int) : ior k (k.wrap a) b = ior k a b := by unfold ior; rw [ofInt_wrap]
theorem ior_wr (k : IntKind) (a b : Int) : ior k a (k.wrap b) = ior k a b := by unfold ior; rw [ofInt_wrap]
theorem iand_wl (k : IntKind) (a b : Int) : iand k (k.wrap a) b = iand k a b := by unfold iand; rw [ofInt_wrap]
theorem ofInt_nat {n : Nat} {a : Int} (h0 : 0 ≤ a) (h1 : a < 2 ^ n) : (BitVec.ofInt n a).toNat = a.toNat := by
  rw [BitVec.toNat_ofInt]
  congr 1
  exact Int.emod_eq_of_lt h0 (by exact_mod_cast h1)
/-- two words that share no bit -/
theorem ior_add (k : IntKind) (x c p : Int) (n : Nat) (hp : (2 : Int) ^ n = p) (hx : 0 ≤ x ∧ x < p) (hc : 0 ≤ c) (hb : c * p + x < 2 ^ k.bits) : ior k x (c * p) = k.wrap (c * p + x) := by
  have hp0 : 0 < p := by rw [← hp]; exact Int.pow_pos (by omega)
  have hcp : 0 ≤ c * p := Int.mul_nonneg hc (Int.le_of_lt hp0)
  unfold ior
  rw [BitVec.toNat_or, ofInt_nat hx.1 (by omega), ofInt_nat hcp (by omega)]
  congr 1
  have h1 : x.toNat < 2 ^ n := by
    have : (x.toNat : Int) < ((2 ^ n : Nat) : Int) := by rw [Int.toNat_of_nonneg hx.1]; push_cast; rw [hp]; exact hx.2
    exact_mod_cast this
  have h2 : (c * p).toNat = 2 ^ n * c.toNat := by
    have : ((c * p).toNat : Int) = ((2 ^ n * c.toNat : Nat) : Int) := by
      rw [Int.toNat_of_nonneg hcp]; push_cast; rw [hp, Int.toNat_of_nonneg hc, Int.mul_comm]
    exact_mod_cast this
  rw [h2, Nat.or_comm, ← Nat.two_pow_add_eq_or_of_lt h1]
  push_cast
  rw [hp, Int.toNat_of_nonneg hc, Int.toNat_of_nonneg hx.1, Int.mul_comm]
/-- the lowest bits -/
theorem iand_low (k : IntKind) (a m p : Int) (n : Nat) (hp : (2 : Int) ^ n = p) (hm : m = p - 1) (hn : n < k.bits) : iand k a m = a % p := by
  have hp0 : 0 < p := by rw [← hp]; exact Int.pow_pos (by omega)
  have hle : (2 : Int) ^ n * 2 ≤ 2 ^ k.bits := by
    have : (2 : Nat) ^ (n + 1) ≤ 2 ^ k.bits := Nat.pow_le_pow_right (by omega) hn
    have h2 : ((2 ^ (n + 1) : Nat) : Int) ≤ ((2 ^ k.bits : Nat) : Int) := by exact_mod_cast this
    rw [Nat.pow_succ] at h2
    exact_mod_cast h2
  rw [hp] at hle
  unfold iand
  rw [BitVec.toNat_and, ofInt_nat (a := m) (by omega) (by omega)]
  have h1 : m.toNat = 2 ^ n - 1 := by
    have : ((2 ^ n : Nat) : Int) = p := by push_cast; exact hp
    omega
  rw [h1, Nat.and_two_pow_sub_one_eq_mod, BitVec.toNat_ofInt]
  have hd : p ∣ (2 : Int) ^ k.bits := by
    rw [← hp]
    have := Int.natCast_dvd_natCast.2 (Nat.pow_dvd_pow 2 (Nat.le_of_lt hn))
    push_cast at this
    exact this
  have h3 : ((((a % ((2 ^ k.bits : Nat) : Int)).toNat % 2 ^ n : Nat)) : Int) = a % p := by
    rw [Int.natCast_emod, Int.toNat_of_nonneg (Int.emod_nonneg _ (by have : (0:Nat) < 2 ^ k.bits := Nat.pow_pos (by omega); omega))]
    push_cast
    rw [hp, Int.emod_emod_of_dvd _ hd]
  rw [h3]
  have := Int.emod_lt_of_pos a hp0
  have := Int.emod_nonneg a (Int.ne_of_gt hp0)
  generalize a % p = r at *
  cases k <;> simp only [IntKind.bits] at hle <;> simp only [wrap_u8, wrap_u16, wrap_u32, wrap_u64, wrap_i8, wrap_i16, wrap_i32, wrap_i64, IntKind.wrap, IntKind.signed, IntKind.bits] <;> first | omega | (split <;> omega) | (simp; omega) | skip
end Go.GX
namespace Go.GX
theorem sec_full {α : Type} {d : α} {l : List α} {n : Nat} (h : l.length = n) : sec d l 0 n = l := by
  subst h
  unfold sec
  apply List.ext_getElem (by simp)
  intro i h1 h2
  simp [h2]
theorem sec_nil {α : Type} {d : α} {n : Nat} : sec d ([] : List α) 0 n = List.replicate n d := by
  unfold sec
  apply List.ext_getElem (by simp)
  intro i h1 h2
  simp
theorem bytesAt_full {l : List Int} {n : Nat} (h : l.length = n) : bytesAt l 0 n = bytesOf l := by
  subst h
  unfold bytesAt bytesOf
  apply List.ext_getElem (by simp)
  intro i h1 h2
  have h2 : i < l.length := by simpa using h2
  simp [h2]
theorem lset_eq {α : Type} {d : α} {l : List α} {i : Nat} {v : α} (h : i < l.length) : lset d l i v = l.set i v := by
  induction l generalizing i with
  | nil => simp at h
  | cons x l ih => cases i with
    | zero => rfl
    | succ i => rw [lset, List.set_cons_succ, ih (by simpa using h)]
/-- a loop's rounds -/
theorem wh_steps {α β : Type} {f : α → Option (α ⊕ β)} (inv : Nat → α) (n : Nat) (h : ∀ i, i < n → f (inv i) = some (.inl (inv (i + 1)))) : wh f (inv 0) = wh f (inv n) := by
  induction n with
  | zero => rfl
  | succ n ih => rw [ih (fun i hi => h i (by omega)), wh_next (h n (by omega))]
theorem whV_of {hd : List It} {ys : Ways} {f : XD hd → Option (XD hd ⊕ YD ys)} {x : XD hd} {y : YD ys} (h : wh f x = some y) : whV f x = y := by unfold whV; rw [h]; rfl
theorem whK_of {hd : List It} {ys : Ways} {f : XD hd → Option (XD hd ⊕ YD ys)} {x : XD hd} {y : YD ys} (h : wh f x = some y) : whK f x = true := by unfold whK; rw [h]; rfl
/-- all of them, or the first that is not -/
theorem first_bad (p : Nat → Bool) (n : Nat) : (∀ i, i < n → p i = true) ∨ ∃ j, j < n ∧ (∀ i, i < j → p i = true) ∧ p j = false := by
  induction n with
  | zero => exact .inl fun i hi => by omega
  | succ n ih =>
    rcases ih with h | ⟨j, h1, h2, h3⟩
    · cases hp : p n with
      | false => exact .inr ⟨n, by omega, h, hp⟩
      | true =>
        refine .inl fun i hi => ?_
        by_cases e : i = n
        · subst e; exact hp
        · exact h i (by omega)
    · exact .inr ⟨j, by omega, h2, h3⟩
theorem getD_lt {α : Type} {d : α} {l : List α} {i : Nat} (h : i < l.length) : l.getD i d = l[i] := by simp [List.getD, h]
theorem take_succ_getD {α : Type} {d : α} {l : List α} {i : Nat} (h : i < l.length) : l.take (i + 1) = l.take i ++ [l.getD i d] := by
  rw [getD_lt h, List.take_add_one, List.getElem?_eq_getElem h]; rfl
theorem flatMap_take_succ {α β : Type} {d : α} {l : List α} {i : Nat} {f : α → List β} (h : i < l.length) : (l.take (i + 1)).flatMap f = (l.take i).flatMap f ++ f (l.getD i d) := by
  rw [take_succ_getD (d := d) h, List.flatMap_append]; simp
end Go.GX
namespace Go.GX
theorem ior_comm (k : IntKind) (a b : Int) : ior k a b = ior k b a := by unfold ior; rw [BitVec.or_comm]
theorem iand_comm (k : IntKind) (a b : Int) : iand k a b = iand k b a := by unfold iand; rw [BitVec.and_comm]
end Go.GX
namespace Go.GX
theorem bif_t {α : Type} {c : Bool} {a b : α} (h : c = true) : (bif c then a else b) = a := by rw [h]; rfl
theorem bif_f {α : Type} {c : Bool} {a b : α} (h : c = false) : (bif c then a else b) = b := by rw [h]; rfl
end Go.GX
namespace Go.GX
theorem ofE {α β : Type} {E : α → Option β} {x : α} {y d : β} (h : E x = some y) : (E x).getD d = y ∧ (E x).isSome = true := by rw [h]; exact ⟨rfl, rfl⟩
end Go.GX

namespace Go.GX
set_option linter.unusedVariables false
set_option linter.unusedSimpArgs false
theorem ofInt64 (a : Int) : (BitVec.ofInt (IntKind.bits .u64) a).toNat = (a % 18446744073709551616).toNat := by
  show (BitVec.ofInt 64 a).toNat = _
  simp [BitVec.toNat_ofInt]
theorem iand_u64 (a b : Int) : iand .u64 a b = (((a % 18446744073709551616).toNat &&& (b % 18446744073709551616).toNat : Nat) : Int) := by
  unfold iand
  rw [BitVec.toNat_and, ofInt64, ofInt64, wrap_u64]
  have h1 : (a % 18446744073709551616).toNat < 2 ^ 64 := by omega
  have := Nat.and_lt_two_pow (n := 64) (b % 18446744073709551616).toNat h1
  rw [Nat.and_comm] at this
  omega
theorem ixor_u64 (a b : Int) : ixor .u64 a b = (((a % 18446744073709551616).toNat ^^^ (b % 18446744073709551616).toNat : Nat) : Int) := by
  unfold ixor
  rw [BitVec.toNat_xor, ofInt64, ofInt64, wrap_u64]
  have h1 : (a % 18446744073709551616).toNat < 2 ^ 64 := by omega
  have h2 : (b % 18446744073709551616).toNat < 2 ^ 64 := by omega
  have := Nat.xor_lt_two_pow h1 h2
  omega
/-! Words as rows of bits. -/
def u (a : Int) : Nat := (a % 18446744073709551616).toNat
def bit (a : Int) (i : Nat) : Bool := (u a).testBit i
def InR (a : Int) : Prop := 0 ≤ a ∧ a < 18446744073709551616
theorem u_lt (a : Int) : u a < 2 ^ 64 := by unfold u; omega
theorem u_of {a : Int} (h : InR a) : (u a : Int) = a := by unfold u; unfold InR at h; omega
theorem u_cast (n : Nat) (h : n < 2 ^ 64) : u (n : Int) = n := by unfold u; omega
theorem bits_eq {a b : Int} (ha : InR a) (hb : InR b) (h : ∀ i, bit a i = bit b i) : a = b := by
  rw [← u_of ha, ← u_of hb, Nat.eq_of_testBit_eq h]
theorem eq_bits {a b : Int} (ha : InR a) (hb : InR b) : a = b ↔ ∀ i, bit a i = bit b i := ⟨fun h i => by rw [h], bits_eq ha hb⟩
theorem bit0 (i : Nat) : bit 0 i = false := by show (u 0).testBit i = false; rw [show u 0 = 0 from rfl]; simp
theorem inR0 : InR 0 := by unfold InR; omega
theorem eq0_bits {a : Int} (ha : InR a) : a = 0 ↔ ∀ i, bit a i = false := by rw [eq_bits ha inR0]; simp only [bit0]
theorem inR_nat {n : Nat} (h : n < 2 ^ 64) : InR (n : Int) := by unfold InR; omega
theorem inR_wrap (a : Int) : InR (IntKind.wrap .u64 a) := by unfold InR; rw [wrap_u64]; omega
theorem iand_n (a b : Int) : iand .u64 a b = ((u a &&& u b : Nat) : Int) := iand_u64 a b
theorem ixor_n (a b : Int) : ixor .u64 a b = ((u a ^^^ u b : Nat) : Int) := ixor_u64 a b
theorem ior_n (a b : Int) : ior .u64 a b = ((u a ||| u b : Nat) : Int) := by
  unfold ior
  rw [BitVec.toNat_or, ofInt64, ofInt64, wrap_u64]
  have := Nat.or_lt_two_pow (u_lt a) (u_lt b)
  unfold u at this ⊢
  omega
theorem iandn_n (a b : Int) : iandn .u64 a b = ((BitVec.ofInt 64 a &&& ~~~BitVec.ofInt 64 b).toNat : Int) := by
  unfold iandn
  rw [wrap_u64]
  have := (BitVec.ofInt 64 a &&& ~~~BitVec.ofInt 64 b).isLt
  show (((BitVec.ofInt 64 a &&& ~~~BitVec.ofInt 64 b).toNat : Int)) % 18446744073709551616 = _
  omega
theorem inR_iand (a b : Int) : InR (iand .u64 a b) := by unfold iand; exact inR_wrap _
theorem inR_ior (a b : Int) : InR (ior .u64 a b) := by unfold ior; exact inR_wrap _
theorem inR_ixor (a b : Int) : InR (ixor .u64 a b) := by unfold ixor; exact inR_wrap _
theorem inR_iandn (a b : Int) : InR (iandn .u64 a b) := by unfold iandn; exact inR_wrap _
theorem bit_iand (a b : Int) (i : Nat) : bit (iand .u64 a b) i = (bit a i && bit b i) := by
  unfold bit
  rw [iand_n, u_cast _ (Nat.and_lt_two_pow _ (u_lt b)), Nat.testBit_and]
theorem bit_ior (a b : Int) (i : Nat) : bit (ior .u64 a b) i = (bit a i || bit b i) := by
  unfold bit
  rw [ior_n, u_cast _ (Nat.or_lt_two_pow (u_lt a) (u_lt b)), Nat.testBit_or]
theorem bit_ixor (a b : Int) (i : Nat) : bit (ixor .u64 a b) i = (bit a i ^^ bit b i) := by
  unfold bit
  rw [ixor_n, u_cast _ (Nat.xor_lt_two_pow (u_lt a) (u_lt b)), Nat.testBit_xor]
theorem bv_bit (a : Int) (i : Nat) : (BitVec.ofInt 64 a).getLsbD i = bit a i := by
  show (BitVec.ofInt 64 a).toNat.testBit i = _
  have := ofInt64 a
  rw [show (BitVec.ofInt 64 a).toNat = (a % 18446744073709551616).toNat from this]; rfl
theorem bit_hi (a : Int) {i : Nat} (h : 64 ≤ i) : bit a i = false :=
  Nat.testBit_lt_two_pow (Nat.lt_of_lt_of_le (u_lt a) (Nat.pow_le_pow_right (by omega) h))
theorem bit_iandn (a b : Int) (i : Nat) : bit (iandn .u64 a b) i = (bit a i && !bit b i) := by
  have h : bit (iandn .u64 a b) i = (BitVec.ofInt 64 a &&& ~~~BitVec.ofInt 64 b).getLsbD i := by
    rw [iandn_n]
    unfold bit
    rw [u_cast _ (BitVec.isLt _)]
    rfl
  rw [h, BitVec.getLsbD_and, BitVec.getLsbD_not, bv_bit, bv_bit]
  by_cases hi : i < 64
  · simp [hi]
  · rw [bit_hi a (by omega)]; simp

def tbl0 : List UInt8 := [0, 1, 2, 2, 3, 3, 3, 3, 4, 4, 4, 4, 4, 4, 4, 4, 5, 5, 5, 5, 5, 5, 5, 5, 5, 5, 5, 5, 5, 5, 5, 5, 6, 6, 6, 6, 6, 6, 6, 6, 6, 6, 6, 6, 6, 6, 6, 6, 6, 6, 6, 6, 6, 6, 6, 6, 6, 6, 6, 6, 6, 6, 6, 6, 7, 7, 7, 7, 7, 7, 7, 7, 7, 7, 7, 7, 7, 7, 7, 7, 7, 7, 7, 7, 7, 7, 7, 7, 7, 7, 7, 7, 7, 7, 7, 7, 7, 7, 7, 7, 7, 7, 7, 7, 7, 7, 7, 7, 7, 7, 7, 7, 7, 7, 7, 7, 7, 7, 7, 7, 7, 7, 7, 7, 7, 7, 7, 7, 8, 8, 8, 8, 8, 8, 8, 8, 8, 8, 8, 8, 8, 8, 8, 8, 8, 8, 8, 8, 8, 8, 8, 8, 8, 8, 8, 8, 8, 8, 8, 8, 8, 8, 8, 8, 8, 8, 8, 8, 8, 8, 8, 8, 8, 8, 8, 8, 8, 8, 8, 8, 8, 8, 8, 8, 8, 8, 8, 8, 8, 8, 8, 8, 8, 8, 8, 8, 8, 8, 8, 8, 8, 8, 8, 8, 8, 8, 8, 8, 8, 8, 8, 8, 8, 8, 8, 8, 8, 8, 8, 8, 8, 8, 8, 8, 8, 8, 8, 8, 8, 8, 8, 8, 8, 8, 8, 8, 8, 8, 8, 8, 8, 8, 8, 8, 8, 8, 8, 8, 8, 8, 8, 8, 8, 8, 8, 8]
def len64S (x : Int) : Option Int :=
  (bif (decide (x ≥ 4294967296)) then
    (bif (decide ((ishr .u64 x 32) ≥ 65536)) then
      (bif (decide ((ishr .u64 (ishr .u64 x 32) 16) ≥ 256)) then
        (bif (tt 1 ((decide (0 ≤ (IntKind.wrap .u8 (ishr .u64 (ishr .u64 (ishr .u64 x 32) 16) 8)))) && (decide ((IntKind.wrap .u8 (ishr .u64 (ishr .u64 (ishr .u64 x 32) 16) 8)) < 256)))) then some (IntKind.wrap .i64 (56 + (IntKind.wrap .i64 ((tbl0.getD (Int.toNat (IntKind.wrap .u8 (ishr .u64 (ishr .u64 (ishr .u64 x 32) 16) 8))) 0).toNat : Int)))) else none)
      else
        (bif (tt 1 ((decide (0 ≤ (IntKind.wrap .u8 (ishr .u64 (ishr .u64 x 32) 16)))) && (decide ((IntKind.wrap .u8 (ishr .u64 (ishr .u64 x 32) 16)) < 256)))) then some (IntKind.wrap .i64 (48 + (IntKind.wrap .i64 ((tbl0.getD (Int.toNat (IntKind.wrap .u8 (ishr .u64 (ishr .u64 x 32) 16))) 0).toNat : Int)))) else none))
    else
      (bif (decide ((ishr .u64 x 32) ≥ 256)) then
        (bif (tt 1 ((decide (0 ≤ (IntKind.wrap .u8 (ishr .u64 (ishr .u64 x 32) 8)))) && (decide ((IntKind.wrap .u8 (ishr .u64 (ishr .u64 x 32) 8)) < 256)))) then some (IntKind.wrap .i64 (40 + (IntKind.wrap .i64 ((tbl0.getD (Int.toNat (IntKind.wrap .u8 (ishr .u64 (ishr .u64 x 32) 8))) 0).toNat : Int)))) else none)
      else
        (bif (tt 1 ((decide (0 ≤ (IntKind.wrap .u8 (ishr .u64 x 32)))) && (decide ((IntKind.wrap .u8 (ishr .u64 x 32)) < 256)))) then some (IntKind.wrap .i64 (32 + (IntKind.wrap .i64 ((tbl0.getD (Int.toNat (IntKind.wrap .u8 (ishr .u64 x 32))) 0).toNat : Int)))) else none)))
  else
    (bif (decide (x ≥ 65536)) then
      (bif (decide ((ishr .u64 x 16) ≥ 256)) then
        (bif (tt 1 ((decide (0 ≤ (IntKind.wrap .u8 (ishr .u64 (ishr .u64 x 16) 8)))) && (decide ((IntKind.wrap .u8 (ishr .u64 (ishr .u64 x 16) 8)) < 256)))) then some (IntKind.wrap .i64 (24 + (IntKind.wrap .i64 ((tbl0.getD (Int.toNat (IntKind.wrap .u8 (ishr .u64 (ishr .u64 x 16) 8))) 0).toNat : Int)))) else none)
      else
        (bif (tt 1 ((decide (0 ≤ (IntKind.wrap .u8 (ishr .u64 x 16)))) && (decide ((IntKind.wrap .u8 (ishr .u64 x 16)) < 256)))) then some (IntKind.wrap .i64 (16 + (IntKind.wrap .i64 ((tbl0.getD (Int.toNat (IntKind.wrap .u8 (ishr .u64 x 16))) 0).toNat : Int)))) else none))
    else
      (bif (decide (x ≥ 256)) then
        (bif (tt 1 ((decide (0 ≤ (IntKind.wrap .u8 (ishr .u64 x 8)))) && (decide ((IntKind.wrap .u8 (ishr .u64 x 8)) < 256)))) then some (IntKind.wrap .i64 (8 + (IntKind.wrap .i64 ((tbl0.getD (Int.toNat (IntKind.wrap .u8 (ishr .u64 x 8))) 0).toNat : Int)))) else none)
      else
        (bif (tt 1 ((decide (0 ≤ (IntKind.wrap .u8 x))) && (decide ((IntKind.wrap .u8 x) < 256)))) then some (IntKind.wrap .i64 (0 + (IntKind.wrap .i64 ((tbl0.getD (Int.toNat (IntKind.wrap .u8 x)) 0).toNat : Int)))) else none))))
/-! ## The length of a number -/
def BL (n k : Nat) : Prop := n < 2 ^ k ∧ (k = 0 ∨ 2 ^ (k - 1) ≤ n)
theorem BL_uniq {n k k' : Nat} (h : BL n k) (h' : BL n k') : k = k' := by
  have key : ∀ {a b : Nat}, BL n a → BL n b → ¬ a < b := by
    intro a b ha hb hlt
    rcases hb.2 with e | e
    · omega
    · have : 2 ^ a ≤ 2 ^ (b - 1) := Nat.pow_le_pow_right (by omega) (by omega)
      have := ha.1
      omega
  have := key h h'; have := key h' h; omega
theorem tbl_ok : ∀ i, i < 256 → BL i (tbl0.getD i 0).toNat := by
  have h : ((List.range 256).all fun i => Nat.blt i (2 ^ (tbl0.getD i 0).toNat) && (Nat.beq (tbl0.getD i 0).toNat 0 || Nat.ble (2 ^ ((tbl0.getD i 0).toNat - 1)) i)) = true := by decide +kernel
  intro i hi
  have := List.all_eq_true.1 h i (by simpa using hi)
  simp only [Bool.and_eq_true, Bool.or_eq_true] at this
  exact ⟨Nat.le_of_ble_eq_true this.1, this.2.imp Nat.eq_of_beq_eq_true Nat.le_of_ble_eq_true⟩
theorem tbl_le : ∀ i, i < 256 → (tbl0.getD i 0).toNat ≤ 8 := by
  have h : ((List.range 256).all fun i => Nat.ble (tbl0.getD i 0).toNat 8) = true := by decide +kernel
  intro i hi
  exact Nat.le_of_ble_eq_true (List.all_eq_true.1 h i (by simpa using hi))
theorem BL_shift {n s k : Nat} (h : BL (n / 2 ^ s) k) (h1 : s = 0 ∨ 1 ≤ n / 2 ^ s) : BL n (s + k) := by
  have hp : 0 < 2 ^ s := Nat.pow_pos (by omega)
  have a1 := h.1
  have e1 : n < 2 ^ (s + k) := by
    rw [Nat.pow_add, Nat.mul_comm]
    exact (Nat.div_lt_iff_lt_mul hp).1 a1
  refine ⟨e1, ?_⟩
  rcases h.2 with e | e
  · rcases h1 with h1 | h1
    · left; omega
    · subst e; rw [Nat.pow_zero] at a1; omega
  · by_cases hk : k = 0
    · subst hk
      rcases h1 with h1 | h1
      · left; omega
      · rw [Nat.pow_zero] at a1; omega
    · right
      rw [show s + k - 1 = s + (k - 1) from by omega, Nat.pow_add, Nat.mul_comm]
      exact (Nat.le_div_iff_mul_le hp).1 e
theorem leaf (x : Int) (s : Nat) (y : Int) (hx : InR x) (hy : y = x / ((2 ^ s : Nat) : Int)) (hs : s ≤ 56) (h : y < 256) (h1 : s = 0 ∨ 1 ≤ y) :
    ∃ L : Nat, (bif (tt 1 ((decide (0 ≤ (IntKind.wrap .u8 y))) && (decide ((IntKind.wrap .u8 y) < 256)))) then some (IntKind.wrap .i64 ((s : Int) + (IntKind.wrap .i64 ((tbl0.getD (Int.toNat (IntKind.wrap .u8 y)) 0).toNat : Int)))) else none) = some (L : Int) ∧ L ≤ 64 ∧ BL x.toNat L := by
  have y0 : 0 ≤ y := by rw [hy]; exact Int.ediv_nonneg hx.1 (Int.natCast_nonneg _)
  have hw : IntKind.wrap .u8 y = y := by
    have : IntKind.wrap .u8 y = y % 256 := by simp [IntKind.wrap, IntKind.signed, IntKind.bits]
    omega
  rw [hw, decide_eq_true y0, decide_eq_true h, tt_eq]
  have hlt : y.toNat < 256 := by omega
  have ht := tbl_le y.toNat hlt
  have hb := tbl_ok y.toNat hlt
  have hyn : y.toNat = x.toNat / 2 ^ s := by
    obtain ⟨m, rfl⟩ : ∃ m : Nat, x = (m : Int) := ⟨x.toNat, (Int.toNat_of_nonneg hx.1).symm⟩
    rw [hy, ← Int.natCast_ediv, Int.toNat_natCast, Int.toNat_natCast]
  generalize (tbl0.getD y.toNat 0).toNat = t at ht hb ⊢
  refine ⟨s + t, ?_, by omega, BL_shift (by rw [← hyn]; exact hb) (h1.imp id (fun h => by omega))⟩
  simp only [Bool.and_self, cond_true]
  congr 1
  rw [wrap_i64 (t : Int)]
  rw [if_neg (by omega), wrap_i64, if_neg (by omega)]
  omega
theorem shr_n (x : Int) (k : Nat) (hk : k ≤ 64) : ishr .u64 x (k : Int) = x / ((2 ^ k : Nat) : Int) := by
  unfold ishr
  rw [show IntKind.bits .u64 = 64 from rfl, show (min ((k : Int).toNat) 64) = k from by omega]
  have h : ((2 : Int) ^ k) = ((2 ^ k : Nat) : Int) := by rw [Int.natCast_pow]; rfl
  rw [h, Int.fdiv_eq_ediv_of_nonneg _ (Int.natCast_nonneg _)]
theorem shr32 (x : Int) : ishr .u64 x 32 = x / 4294967296 := shr_n x 32 (by omega)
theorem shr16 (x : Int) : ishr .u64 x 16 = x / 65536 := shr_n x 16 (by omega)
theorem shr8 (x : Int) : ishr .u64 x 8 = x / 256 := shr_n x 8 (by omega)
theorem len_some (x : Int) (hx : InR x) : ∃ L : Nat, len64S x = some (L : Int) ∧ L ≤ 64 ∧ BL x.toNat L := by
  have h56 : ((2 ^ 56 : Nat) : Int) = 72057594037927936 := rfl
  have h48 : ((2 ^ 48 : Nat) : Int) = 281474976710656 := rfl
  have h40 : ((2 ^ 40 : Nat) : Int) = 1099511627776 := rfl
  have h32 : ((2 ^ 32 : Nat) : Int) = 4294967296 := rfl
  have h24 : ((2 ^ 24 : Nat) : Int) = 16777216 := rfl
  have h16 : ((2 ^ 16 : Nat) : Int) = 65536 := rfl
  have h8 : ((2 ^ 8 : Nat) : Int) = 256 := rfl
  have h0 : ((2 ^ 0 : Nat) : Int) = 1 := rfl
  have hx' := hx
  unfold InR at hx'
  unfold len64S
  simp only [shr32, shr16, shr8]
  by_cases c1 : x ≥ 4294967296
  · rw [decide_eq_true c1, cond_true]
    by_cases c2 : x / 4294967296 ≥ 65536
    · rw [decide_eq_true c2, cond_true]
      by_cases c3 : x / 4294967296 / 65536 ≥ 256
      · rw [decide_eq_true c3, cond_true]
        exact leaf x 56 _ hx (by rw [h56]; omega) (by omega) (by omega) (.inr (by omega))
      · rw [decide_eq_false c3, cond_false]
        exact leaf x 48 _ hx (by rw [h48]; omega) (by omega) (by omega) (.inr (by omega))
    · rw [decide_eq_false c2, cond_false]
      by_cases c3 : x / 4294967296 ≥ 256
      · rw [decide_eq_true c3, cond_true]
        exact leaf x 40 _ hx (by rw [h40]; omega) (by omega) (by omega) (.inr (by omega))
      · rw [decide_eq_false c3, cond_false]
        exact leaf x 32 _ hx (by rw [h32]) (by omega) (by omega) (.inr (by omega))
  · rw [decide_eq_false c1, cond_false]
    by_cases c2 : x ≥ 65536
    · rw [decide_eq_true c2, cond_true]
      by_cases c3 : x / 65536 ≥ 256
      · rw [decide_eq_true c3, cond_true]
        exact leaf x 24 _ hx (by rw [h24]; omega) (by omega) (by omega) (.inr (by omega))
      · rw [decide_eq_false c3, cond_false]
        exact leaf x 16 _ hx (by rw [h16]) (by omega) (by omega) (.inr (by omega))
    · rw [decide_eq_false c2, cond_false]
      by_cases c3 : x ≥ 256
      · rw [decide_eq_true c3, cond_true]
        exact leaf x 8 _ hx (by rw [h8]) (by omega) (by omega) (.inr (by omega))
      · rw [decide_eq_false c3, cond_false]
        exact leaf x 0 _ hx (by rw [h0]; omega) (by omega) (by omega) (.inl rfl)
end Go.GX
