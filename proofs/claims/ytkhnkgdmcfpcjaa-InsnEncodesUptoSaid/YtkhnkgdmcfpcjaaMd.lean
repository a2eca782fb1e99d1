import Derived.Test.YtkhnkgdmcfpcjaaMc
namespace Go.Proofs
open Go.GX
set_option linter.unusedVariables false
set_option linter.unusedSimpArgs false
def eqI (a b : I) : Bool := decide (a.1 = b.1) && (decide (a.2.1 = b.2.1) && (decide (a.2.2.1 = b.2.2.1) && (decide (a.2.2.2.1 = b.2.2.2.1) && tt 1 (decide (a.2.2.2.2.1 = b.2.2.2.2.1)))))
theorem eqI_iff {a b : I} : eqI a b = true ↔ a = b := by
  obtain ⟨a1, a2, a3, a4, a5, _⟩ := a
  obtain ⟨b1, b2, b3, b4, b5, _⟩ := b
  simp [eqI]
theorem V12_ok {a b : List I} {i : Nat} (hl : a.length ≤ 16777216) (he : a.length = b.length) (hi : i < a.length) :
    V12_0 (a, b, (i : Int), ()) = some (if eqI (a.getD i (0, 0, 0, 0, 0, ())) (b.getD i (0, 0, 0, 0, 0, ())) = true then .inl (a, b, ((i + 1 : Nat) : Int), ()) else .inr (.inr (false, ()))) := by
  show R12_0 _ _ a b (i : Int) = _
  unfold R12_0
  rw [show Int.toNat (i : Int) = i from rfl]
  refine (bif_t (decide_eq_true (by omega))).trans ?_
  have ob : tt 2 ((decide (0 ≤ (i : Int)) && decide ((i : Int) < (b.length : Int))) && tt 1 (decide (0 ≤ (i : Int)) && decide ((i : Int) < (a.length : Int)))) = true := by
    simp only [tt_eq, Bool.and_eq_true, decide_eq_true_eq]; omega
  change (bif !(eqI (a.getD i (0, 0, 0, 0, 0, ())) (b.getD i (0, 0, 0, 0, 0, ()))) then _ else _) = _
  cases eqI (a.getD i (0, 0, 0, 0, 0, ())) (b.getD i (0, 0, 0, 0, 0, ()))
  · exact (bif_t rfl).trans ((bif_t ob).trans rfl)
  · refine (bif_f rfl).trans ((bif_t ob).trans ?_)
    rw [wi64 (by omega)]; rfl
theorem V12_end {a b : List I} : V12_0 (a, b, (a.length : Int), ()) = some (.inr (.inl ())) := by
  show R12_0 _ _ a b (a.length : Int) = _
  unfold R12_0
  exact bif_f (decide_eq_false (by omega))
theorem E12_eq {a b : List I} (hl : a.length ≤ 16777216) : E12 (a, b, ()) = some (decide (a = b)) := by
  show S12 W12_0 Q12_0 a b = _
  unfold S12
  by_cases he : a.length = b.length
  · refine (bif_f (by rw [decide_eq_true (by omega)]; rfl)).trans ?_
    rcases first_bad (fun i => eqI (a.getD i (0, 0, 0, 0, 0, ())) (b.getD i (0, 0, 0, 0, 0, ()))) a.length with h | ⟨j, h1, h2, h3⟩
    · have hw := (wh_steps (f := V12_0) (fun i => (a, b, (i : Int), ())) a.length (fun i hi => by rw [V12_ok hl he hi, if_pos (h i hi)])).trans (wh_stop V12_end)
      have e1 : W12_0 (a, b, 0, ()) = .inl () := whV_of (hd := hd12_0) (ys := ys12_0) hw
      have e2 : Q12_0 (a, b, 0, ()) = true := whK_of (hd := hd12_0) (ys := ys12_0) hw
      rw [e1, e2]
      have : a = b := by
        apply List.ext_getElem he
        intro i hi hi'
        have := eqI_iff.1 (h i hi)
        rwa [getD_lt hi, getD_lt hi'] at this
      rw [decide_eq_true this]; rfl
    · have hw := (wh_steps (f := V12_0) (fun i => (a, b, (i : Int), ())) j (fun i hi => by rw [V12_ok hl he (by omega), if_pos (h2 i hi)])).trans (wh_stop (by rw [V12_ok hl he h1, if_neg (by rw [h3]; simp)]))
      have e1 : W12_0 (a, b, 0, ()) = .inr (false, ()) := whV_of (hd := hd12_0) (ys := ys12_0) hw
      have e2 : Q12_0 (a, b, 0, ()) = true := whK_of (hd := hd12_0) (ys := ys12_0) hw
      rw [e1, e2]
      have : a ≠ b := by
        intro e; subst e
        have : eqI (a.getD j (0, 0, 0, 0, 0, ())) (a.getD j (0, 0, 0, 0, 0, ())) = true := eqI_iff.2 rfl
        rw [this] at h3; cases h3
      rw [decide_eq_false this]; rfl
  · refine (bif_t (by rw [decide_eq_false (by omega)]; rfl)).trans ?_
    rw [decide_eq_false (by intro e; exact he (by rw [e]))]
/-! ## There and back -/
theorem of8_app {s r : List UInt8} (h : s.length = 8) : of8 (s ++ r) = of8 s := by
  unfold of8
  have : ∀ i, i < 8 → (s ++ r).getD i 0 = s.getD i 0 := fun i hi => by simp [List.getD, List.getElem?_append_left (show i < s.length by omega)]
  dsimp only
  rw [this 0 (by omega), this 1 (by omega), this 2 (by omega), this 3 (by omega), this 4 (by omega), this 5 (by omega), this 6 (by omega), this 7 (by omega)]
theorem bytesOf_app (a b : List Int) : bytesOf (a ++ b) = bytesOf a ++ bytesOf b := by unfold bytesOf; rw [List.map_append]
theorem bytesOf_length (a : List Int) : (bytesOf a).length = a.length := by unfold bytesOf; rw [List.length_map]
theorem b_nat {n : Int} (h : 0 ≤ n ∧ n < 256) : ((UInt8.ofNat n.toNat).toNat : Int) = n := by rw [UInt8.toNat_ofNat']; omega
theorem of8_by {a : I} (hk : okI a = true) : of8 (bytesOf (byI a)) = a := by
  have h : 0 ≤ a.1 ∧ a.1 < 256 ∧ 0 ≤ a.2.1 ∧ a.2.1 < 16 ∧ 0 ≤ a.2.2.1 ∧ a.2.2.1 < 16 ∧ -32768 ≤ a.2.2.2.1 ∧ a.2.2.2.1 < 32768 ∧ -2147483648 ≤ a.2.2.2.2.1 ∧ a.2.2.2.2.1 < 2147483648 := of_decide_eq_true hk
  obtain ⟨op, dst, src, off, imm, _⟩ := a
  dsimp only at h
  show (((UInt8.ofNat op.toNat).toNat : Int), ((UInt8.ofNat (src * 16 + dst).toNat).toNat : Int) % 16, ((UInt8.ofNat (src * 16 + dst).toNat).toNat : Int) / 16, IntKind.wrap .i16 (((UInt8.ofNat (off % 256).toNat).toNat : Int) + 256 * ((UInt8.ofNat (off / 256 % 256).toNat).toNat : Int)),
    IntKind.wrap .i32 (((UInt8.ofNat (imm % 256).toNat).toNat : Int) + 256 * ((UInt8.ofNat (imm / 256 % 256).toNat).toNat : Int) + 65536 * ((UInt8.ofNat (imm / 65536 % 256).toNat).toNat : Int) + 16777216 * ((UInt8.ofNat (imm / 16777216 % 256).toNat).toNat : Int)), ()) = _
  rw [b_nat (by omega), b_nat (by omega), b_nat (by omega), b_nat (by omega), b_nat (by omega), b_nat (by omega), b_nat (by omega), b_nat (by omega)]
  have e1 : IntKind.wrap .i16 (off % 256 + 256 * (off / 256 % 256)) = off := by rw [wrap_i16]; split <;> omega
  have e2 : IntKind.wrap .i32 (imm % 256 + 256 * (imm / 256 % 256) + 65536 * (imm / 65536 % 256) + 16777216 * (imm / 16777216 % 256)) = imm := by
    have : imm % 256 + 256 * (imm / 256 % 256) + 65536 * (imm / 65536 % 256) + 16777216 * (imm / 16777216 % 256) = imm % 4294967296 := by omega
    rw [this, wrap_i32]; split <;> omega
  rw [e1, e2, show (src * 16 + dst) % 16 = dst by omega, show (src * 16 + dst) / 16 = src by omega]
theorem ok_of8 (s : List UInt8) : okI (of8 s) = true := by
  unfold okI ok1 of8
  dsimp only
  rw [decide_eq_true_eq, wrap_i16, wrap_i32]
  have h0 := by8 (s.getD 0 0); have h1 := by8 (s.getD 1 0)
  refine ⟨h0.1, h0.2, by omega, by omega, by omega, by omega, ?_, ?_, ?_, ?_⟩ <;> split <;> omega
theorem u8_ext {a b : UInt8} (h : (a.toNat : Int) = b.toNat) : a = b := UInt8.toNat_inj.1 (by omega)
theorem u8_of (b : UInt8) {n : Int} (h : n = b.toNat) : UInt8.ofNat n.toNat = b := by subst h; simp
theorem by_of8 {s : List UInt8} (h : 8 ≤ s.length) : bytesOf (byI (of8 s)) = s.take 8 := by
  match s, h with
  | a :: b :: c :: d :: e :: f :: g :: i :: r, _ =>
    have ha := by8 a; have hb := by8 b; have hc := by8 c; have hd := by8 d; have he := by8 e; have hf := by8 f; have hg := by8 g; have hi := by8 i
    show bytesOf (by1 (a.toNat : Int) ((b.toNat : Int) % 16) ((b.toNat : Int) / 16) (IntKind.wrap .i16 ((c.toNat : Int) + 256 * (d.toNat : Int))) (IntKind.wrap .i32 ((e.toNat : Int) + 256 * (f.toNat : Int) + 65536 * (g.toNat : Int) + 16777216 * (i.toNat : Int)))) = [a, b, c, d, e, f, g, i]
    unfold by1 bytesOf
    simp only [List.map_cons, List.map_nil]
    rw [u8_of a rfl, u8_of b (by omega)]
    have e1 : ∀ x : Int, IntKind.wrap .i16 x % 256 = x % 256 := fun x => by rw [wrap_i16]; split <;> omega
    have e2 : ∀ x : Int, IntKind.wrap .i16 x / 256 % 256 = x / 256 % 256 := fun x => by rw [wrap_i16]; split <;> omega
    have e3 : ∀ x : Int, IntKind.wrap .i32 x % 256 = x % 256 := fun x => by rw [wrap_i32]; split <;> omega
    have e4 : ∀ x : Int, IntKind.wrap .i32 x / 256 % 256 = x / 256 % 256 := fun x => by rw [wrap_i32]; split <;> omega
    have e5 : ∀ x : Int, IntKind.wrap .i32 x / 65536 % 256 = x / 65536 % 256 := fun x => by rw [wrap_i32]; split <;> omega
    have e6 : ∀ x : Int, IntKind.wrap .i32 x / 16777216 % 256 = x / 16777216 % 256 := fun x => by rw [wrap_i32]; split <;> omega
    rw [e1, e2, e3, e4, e5, e6, u8_of c (by omega), u8_of d (by omega), u8_of e (by omega), u8_of f (by omega), u8_of g (by omega), u8_of i (by omega)]
theorem WI_ok {a : I} (hk : okI a = true) : WI a := by
  have h : 0 ≤ a.1 ∧ a.1 < 256 ∧ 0 ≤ a.2.1 ∧ a.2.1 < 16 ∧ 0 ≤ a.2.2.1 ∧ a.2.2.1 < 16 ∧ -32768 ≤ a.2.2.2.1 ∧ a.2.2.2.1 < 32768 ∧ -2147483648 ≤ a.2.2.2.2.1 ∧ a.2.2.2.2.1 < 2147483648 := of_decide_eq_true hk
  unfold WI i64
  omega
theorem WI_of8 (s : List UInt8) : WI (of8 s) := WI_ok (ok_of8 s)
theorem dec_enc : ∀ (l : List I), l.all okI = true → dec l.length (bytesOf (l.flatMap byI)) = l
  | [], _ => rfl
  | a :: l, h => by
    simp only [List.all_cons, Bool.and_eq_true] at h
    rw [List.length_cons, dec, List.flatMap_cons, bytesOf_app, of8_app (by rw [bytesOf_length, byI_length]), of8_by h.1]
    rw [show (bytesOf (byI a) ++ bytesOf (l.flatMap byI)).drop 8 = bytesOf (l.flatMap byI) by rw [List.drop_append_of_le_length (by rw [bytesOf_length, byI_length]; omega), List.drop_of_length_le (by rw [bytesOf_length, byI_length]; omega)]; rfl]
    rw [dec_enc l h.2]
theorem dec_ok : ∀ n s, (dec n s).all okI = true
  | 0, _ => rfl
  | n + 1, s => by rw [dec, List.all_cons, ok_of8, dec_ok]; rfl
theorem enc_dec : ∀ n (s : List UInt8), s.length = 8 * n → bytesOf ((dec n s).flatMap byI) = s
  | 0, s, h => by have : s = [] := List.length_eq_zero_iff.1 (by omega); subst this; rfl
  | n + 1, s, h => by
    rw [dec, List.flatMap_cons, bytesOf_app, by_of8 (by omega), enc_dec n (s.drop 8) (by rw [List.length_drop]; omega), List.take_append_drop]
theorem WL_dec (n : Nat) (s : List UInt8) (h : n ≤ 16777216) : WL (dec n s) := by
  refine ⟨by rw [dec_length]; exact h, ?_⟩
  induction n generalizing s with
  | zero => intro a ha; cases ha
  | succ n ih =>
    intro a ha
    rw [dec] at ha
    rcases List.mem_cons.1 ha with rfl | ha
    · exact WI_of8 s
    · exact ih _ (by omega) a ha
theorem flatMap_len8 (l : List I) : (bytesOf (l.flatMap byI)).length = 8 * l.length := by rw [bytesOf_length, flatMap_byI_length]
end Go.Proofs
