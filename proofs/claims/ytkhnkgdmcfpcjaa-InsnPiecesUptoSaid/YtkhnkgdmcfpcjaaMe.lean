import Derived.Test.YtkhnkgdmcfpcjaaMd
namespace Go.Proofs
open Go.GX
set_option linter.unusedVariables false
set_option linter.unusedSimpArgs false
theorem ofE {α β : Type} {E : α → Option β} {x : α} {y d : β} (h : E x = some y) : (E x).getD d = y ∧ (E x).isSome = true := by rw [h]; exact ⟨rfl, rfl⟩
theorem F8_eq {l : List I} (h : WL l) : F8 (l, ()) = encR l ∧ G8 (l, ()) = true := ofE (E8_eq h)
theorem F9_eq {l : List I} (h : WL l) : F9 (l, ()) = encR l ∧ G9 (l, ()) = true := ofE (E9_eq h)
theorem F10_eq {s : List UInt8} (h : s.length ≤ 16777216) : F10 (s, ()) = decR s ∧ G10 (s, ()) = true := ofE (E10_eq h)
theorem F11_eq {s : List UInt8} (h : s.length ≤ 16777216) : F11 (s, ()) = decR s ∧ G11 (s, ()) = true := ofE (E11_eq h)
theorem F12_eq {a b : List I} (h : a.length ≤ 16777216) : F12 (a, b, ()) = decide (a = b) ∧ G12 (a, b, ()) = true := ofE (E12_eq h)
theorem decR_len {s : List UInt8} : (decR s).1.length ≤ s.length := by
  unfold decR; split
  · rw [dec_length]; omega
  · simp
theorem beq_self (s : List UInt8) : (s == s) = true := by simp
/-- any slots as bytes, any bytes as slots, or the errors -/
theorem E3_eq {l : List I} {s : List UInt8} (h : WL l) (hs : s.length ≤ 16777216) : E3 (l, s, ()) = some true := by
  have hl := h.1
  show S3 F8 G8 F9 G9 F10 G10 F11 G11 F12 G12 F13 G13 l s = _
  unfold S3
  rw [sec_full (l := l) (n := 0 + l.length) (by omega), (F8_eq h).1, (F8_eq h).2, (F9_eq h).1, (F9_eq h).2, (F10_eq hs).1, (F10_eq hs).2, (F11_eq hs).1, (F11_eq hs).2]
  have hd : (decR s).1.length ≤ 16777216 := Nat.le_trans decR_len hs
  rw [(F12_eq hd).1, (F12_eq hd).2]
  refine (bif_t (beq_self _)).trans ((bif_t (decide_eq_true rfl)).trans ((bif_t (decide_eq_true rfl)).trans ((bif_t (decide_eq_true rfl)).trans ((bif_t ?_).trans rfl))))
  show (true && (true && (true && (true && (true && (true && _)))))) = true
  simp only [tt_eq, Bool.and_eq_true, decide_eq_true_eq, true_and, and_true]
  omega
theorem encR_ok {l : List I} (h : l.all okI = true) : encR l = (bytesOf (l.flatMap byI), 0, ()) := by unfold encR; rw [if_pos h]
theorem encR_not {l : List I} (h : l.all okI = false) : encR l = ([], 30, ()) := by unfold encR; rw [if_neg (by rw [h]; simp)]
theorem decR_ok {s : List UInt8} (h : s.length % 8 = 0) : decR s = (dec (s.length / 8) s, 0, ()) := by unfold decR; rw [if_pos h]
theorem decR_not {s : List UInt8} (h : s.length % 8 ≠ 0) : decR s = ([], 30, ()) := by unfold decR; rw [if_neg h]
/-- what was encoded is decoded as it was -/
theorem dec_of_enc {l : List I} (h : l.all okI = true) : decR (bytesOf (l.flatMap byI)) = (l, 0, ()) := by
  have hl := flatMap_len8 l
  rw [decR_ok (by omega), show (bytesOf (l.flatMap byI)).length / 8 = l.length by omega, dec_enc l h]
theorem enc_of_dec {s : List UInt8} (h : s.length % 8 = 0) : encR (dec (s.length / 8) s) = (s, 0, ()) := by
  rw [encR_ok (dec_ok _ _), enc_dec _ s (by omega)]
theorem S4_eq (l : List I) (s : List UInt8) : E4 (l, s, ()) = S4 F8 G8 F10 G10 F12 G12 F13 G13 l s := rfl
theorem E4_eq {l : List I} {s : List UInt8} (h : WL l) (hl : l.length ≤ 1048576) (hs : s.length ≤ 16777216) : E4 (l, s, ()) = some true := by
  rw [S4_eq]
  unfold S4
  rw [(F8_eq h).1, (F8_eq h).2, (F10_eq hs).1, (F10_eq hs).2, show Int.tmod (s.length : Int) 8 = (s.length : Int) % 8 from Int.tmod_eq_emod_of_nonneg (by omega)]
  have e13 : F13 () = true := rfl
  have g13 : G13 () = true := rfl
  rw [e13, g13]
  cases hk : l.all okI
  · rw [encR_not hk]
    refine (bif_f rfl).trans ?_
    by_cases h8 : s.length % 8 = 0
    · rw [decR_ok h8]
      have hw := WL_dec (s.length / 8) s (by omega)
      rw [(F8_eq hw).1, (F8_eq hw).2, enc_of_dec h8]
      exact (bif_f rfl).trans ((bif_t rfl).trans ((bif_t (beq_self _)).trans rfl))
    · rw [decR_not h8]
      exact (bif_t rfl).trans ((bif_t (by rw [decide_eq_false (by omega)]; rfl)).trans rfl)
  · rw [encR_ok hk]
    have hb : (bytesOf (l.flatMap byI)).length ≤ 16777216 := by rw [flatMap_len8]; omega
    rw [(F10_eq hb).1, (F10_eq hb).2, dec_of_enc hk, (F12_eq h.1).1, (F12_eq h.1).2, decide_eq_true (rfl : l = l)]
    refine (bif_t rfl).trans ((bif_f rfl).trans ((bif_f rfl).trans ?_))
    by_cases h8 : s.length % 8 = 0
    · rw [decR_ok h8]
      have hw := WL_dec (s.length / 8) s (by omega)
      rw [(F8_eq hw).1, (F8_eq hw).2, enc_of_dec h8]
      exact (bif_f rfl).trans ((bif_t rfl).trans ((bif_t (beq_self _)).trans rfl))
    · rw [decR_not h8]
      exact (bif_t rfl).trans ((bif_t (by rw [decide_eq_false (by omega)]; rfl)).trans rfl)
end Go.Proofs
