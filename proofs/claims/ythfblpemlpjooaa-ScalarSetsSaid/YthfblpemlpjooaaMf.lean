import Derived.Test.YthfblpemlpjooaaMe
namespace Go.Proofs
open Go.GX
set_option linter.unusedVariables false
set_option linter.unusedSimpArgs false
theorem V4_in {ok : Bool} {s t : Sc} {ns : List Int} {i : Nat} (hi : i < 3) (hn : InR (ns.getD i 0)) (hk : ∀ x, InR x → hasS s x = (ok && hasS t x)) :
    V4_0 ((), (), (), ok, (i : Int), s, ns, t, ()) = some (.inl ((), (), (), ok, ((i + 1 : Nat) : Int), s, ns, t, ())) := by
  unfold V4_0 R4_0
  dsimp only
  simp only [(F9_eq _ _).1, (F9_eq _ _).2]
  rw [show Int.toNat (i : Int) = i from rfl, wi64 (a := (i : Int) + 1) (by omega)]
  have ob : ∀ b : Bool, tt 1 (b && (tt 1 (decide (i < 3)) && tt 1 (decide (0 ≤ (i : Int)) && decide ((i : Int) < 3)))) = b := fun b => by
    simp only [tt_eq]
    rw [decide_eq_true (show i < 3 by omega), decide_eq_true (show 0 ≤ (i : Int) by omega), decide_eq_true (show (i : Int) < 3 by omega)]
    simp
  refine (bif_t (decide_eq_true (by omega))).trans ?_
  by_cases h0 : (i : Int) = 0
  · refine (bif_t (decide_eq_true h0)).trans ?_
    have hx := hk (ior .u64 s.1.1 (iand .u64 (ns.getD i 0) s.1.2.1)) (inR_ior _ _)
    cases ok
    · refine (bif_f rfl).trans ((bif_f (by rw [hx]; rfl)).trans ((bif_t (ob true)).trans rfl))
    · refine (bif_t rfl).trans ((bif_f (by rw [hx]; simp)).trans ((bif_t ?_).trans rfl))
      exact ob true
  · refine (bif_f (decide_eq_false h0)).trans ?_
    have hx := hk _ hn
    cases ok
    · refine (bif_f rfl).trans ((bif_f (by rw [hx]; rfl)).trans ((bif_t (ob true)).trans rfl))
    · refine (bif_t rfl).trans ((bif_f (by rw [hx]; simp)).trans ((bif_t ?_).trans rfl))
      exact ob true
theorem E4_eq {s : Sc} {ns : List Int} (hs : RS s) (hn : ∀ i, InR (ns.getD i 0)) : E4 (s, ns, ()) = some true := by
  show S4 F9 G9 F12 G12 F13 G13 W4_0 Q4_0 s ns = _
  unfold S4
  have hs' : RS ((iandn .u64 s.1.1 s.1.2.1, s.1.2), s.2) := ⟨⟨inR_iandn _ _, hs.1.2⟩, hs.2.1, hs.2.2⟩
  have hm : may ((iandn .u64 s.1.1 s.1.2.1, s.1.2), s.2) = true := may_iff.2 fun i => by
    show (bit (iandn .u64 s.1.1 s.1.2.1) i && bit s.1.2.1 i) = false
    rw [bit_iandn]; cases bit s.1.2.1 i <;> simp
  generalize ((iandn .u64 s.1.1 s.1.2.1, s.1.2), s.2) = r at *
  rw [(F13_eq r).1, (F13_eq r).2]
  have hw := (wh_steps (f := V4_0) (fun i => ((), (), (), (tgtR (tgt r)).2.1, (i : Int), r, ns, (tgtR (tgt r)).1, ())) 3 (fun i hi => V4_in hi (hn i) (fun x hx => keepB hs' hm hx))).trans (wh_stop rfl)
  have e1 : W4_0 ((), (), (), (tgtR (tgt r)).2.1, 0, r, ns, (tgtR (tgt r)).1, ()) = _ := whV_of (hd := hd4_0) (ys := ys4_0) hw
  have e2 : Q4_0 ((), (), (), (tgtR (tgt r)).2.1, 0, r, ns, (tgtR (tgt r)).1, ()) = true := whK_of (hd := hd4_0) (ys := ys4_0) hw
  rw [e1, e2]
  rfl
/-! ## One -/
theorem V8_in {l : List Int} {s : Sc} {i : Nat} (hl : l.length = 5) (hi : i < l.length) : V8_0 ((), l, (i : Int), s, ()) = some (if hasS s (l.getD i 0) = true then .inr (.inr (l.getD i 0, true, ())) else .inl ((), l, ((i + 1 : Nat) : Int), s, ())) := by
  unfold V8_0 R8_0
  dsimp only
  rw [show 0 + Int.toNat (i : Int) = i by omega, (F19_eq _ _).1, (F19_eq _ _).2, wi64 (a := (i : Int) + 1) (by omega), sec_full rfl]
  refine (bif_t (decide_eq_true (by omega))).trans ?_
  cases hasS s (l.getD i 0)
  · refine (bif_f rfl).trans ((bif_t ?_).trans rfl)
    simp only [tt_eq, Bool.and_eq_true, decide_eq_true_eq, true_and, and_true]; omega
  · refine (bif_t rfl).trans ((bif_t ?_).trans rfl)
    simp only [tt_eq, Bool.and_eq_true, decide_eq_true_eq, true_and, and_true]; omega
theorem V8_end {l : List Int} {s : Sc} : V8_0 ((), l, (l.length : Int), s, ()) = some (.inr (.inl ())) := by
  unfold V8_0 R8_0
  exact bif_f (decide_eq_false (by dsimp only; omega))
theorem E8_ex (s : Sc) (n : Int) : ∃ x ok, E8 (s, n, ()) = some (x, ok, ()) ∧ (ok = true → hasS s x = true) := by
  show ∃ x ok, S8 F19 G19 W8_0 Q8_0 s n = some (x, ok, ()) ∧ _
  unfold S8
  generalize hl : [ior .u64 s.1.1 (iand .u64 n s.1.2.1), s.2.1, s.2.2.1, s.1.1, ior .u64 s.1.1 s.1.2.1] = l
  have h5 : l.length = 5 := by rw [← hl]; rfl
  rcases first_bad (fun i => !hasS s (l.getD i 0)) l.length with h | ⟨j, h1, h2, h3⟩
  · have hw := (wh_steps (f := V8_0) (fun i => ((), l, (i : Int), s, ())) l.length (fun i hi => by
      have := h i hi
      rw [V8_in h5 hi, if_neg (by simpa using this)])).trans (wh_stop V8_end)
    have e1 : W8_0 ((), l, 0, s, ()) = .inl () := whV_of (hd := hd8_0) (ys := ys8_0) hw
    have e2 : Q8_0 ((), l, 0, s, ()) = true := whK_of (hd := hd8_0) (ys := ys8_0) hw
    rw [e1, e2]
    exact ⟨0, false, rfl, fun h => by cases h⟩
  · have h3 : hasS s (l.getD j 0) = true := by simpa using h3
    have hw := (wh_steps (f := V8_0) (fun i => ((), l, (i : Int), s, ())) j (fun i hi => by
      have := h2 i hi
      rw [V8_in h5 (by omega), if_neg (by simpa using this)])).trans (wh_stop (by rw [V8_in h5 h1, if_pos h3]))
    have e1 : W8_0 ((), l, 0, s, ()) = .inr (l.getD j 0, true, ()) := whV_of (hd := hd8_0) (ys := ys8_0) hw
    have e2 : Q8_0 ((), l, 0, s, ()) = true := whK_of (hd := hd8_0) (ys := ys8_0) hw
    rw [e1, e2]
    exact ⟨_, true, rfl, fun _ => h3⟩
/-! ## The lowest bits of a number -/
theorem has_inR {s : Sc} {n : Int} (hs : RS s) (h : hasS s n = true) : InR n := by
  obtain ⟨h1, h2, _⟩ := hasS_iff.1 h
  have g1 := hs.2.1; have g2 := hs.2.2
  unfold InR at *; omega
theorem may_cns (v : Int) : may (cns v) = true := may_iff.2 fun i => by
  show (bit v i && bit 0 i) = false
  rw [bit0]; simp
theorem may_tgt {s t : Sc} (h : tgt s = some t) : may t = true := by
  unfold tgt at h
  split at h
  · rw [show (3 : Nat) = 2 + 1 from rfl, rnds, Option.bind_eq_some_iff] at h
    obtain ⟨s1, h1, h⟩ := h
    rw [show (2 : Nat) = 1 + 1 from rfl, rnds, Option.bind_eq_some_iff] at h
    obtain ⟨s2, h2, h⟩ := h
    rw [show (1 : Nat) = 0 + 1 from rfl, rnds, Option.bind_eq_some_iff] at h
    obtain ⟨s3, h3, h⟩ := h
    cases h
    exact may_iff.2 (may_rnd h3)
  · cases h
theorem may_wide (s : Sc) : may (wideF s) = true := by
  unfold wideF
  split
  · rename_i t ht
    split
    · exact may_tgt ht
    · exact may_cns _
  · exact may_cns _
theorem mst_msk {w : Int} (h : isW w) : ∃ k : Nat, k ≤ 32 ∧ mst w = msk k ∧ (w = 8 ∧ k = 8 ∨ w = 16 ∧ k = 16 ∨ w = 32 ∧ k = 32) := by
  rcases h with rfl | rfl | rfl
  · exact ⟨8, by omega, rfl, .inl ⟨rfl, rfl⟩⟩
  · exact ⟨16, by omega, rfl, .inr (.inl ⟨rfl, rfl⟩)⟩
  · exact ⟨32, by omega, rfl, .inr (.inr ⟨rfl, rfl⟩)⟩
theorem and_le (x : Int) {k : Nat} (hk : k ≤ 64) : 0 ≤ iand .u64 x (msk k) ∧ iand .u64 x (msk k) ≤ msk k := by
  refine ⟨(inR_iand _ _).1, ?_⟩
  rw [iand_n]
  have : u (msk k) = 2 ^ k - 1 := by
    unfold msk; rw [u_cast]
    have : 2 ^ k ≤ 2 ^ 64 := Nat.pow_le_pow_right (by omega) hk
    have : 0 < 2 ^ k := Nat.pow_pos (by omega)
    omega
  rw [this]
  have := @Nat.and_le_right (u x) (2 ^ k - 1)
  unfold msk
  exact_mod_cast this
theorem and_id {x : Int} {k : Nat} (hk : k ≤ 64) (hx : InR x) (h : x ≤ msk k) : iand .u64 x (msk k) = x := by
  refine bits_eq (inR_iand _ _) hx fun i => ?_
  rw [bit_iand, bit_msk hk]
  by_cases hi : i < k
  · simp [hi]
  · rw [decide_eq_false hi, Bool.and_false]
    symm
    have hux : u x < 2 ^ k := by
      have := u_of hx
      have h0 : 0 < 2 ^ k := Nat.pow_pos (by omega)
      unfold msk at h; omega
    exact Nat.testBit_lt_two_pow (Nat.lt_of_lt_of_le hux (Nat.pow_le_pow_right (by omega) (by omega)))
theorem cast_has {s : Sc} {w x : Int} (hs : RS s) (hm : may s = true) (hw : isW w) (h : hasS s x = true) : hasS (castS s w) (iand .u64 x (mst w)) = true := by
  obtain ⟨k, hk, hmk, _⟩ := mst_msk hw
  obtain ⟨h1, h2, h3⟩ := hasS_iff.1 h
  have hx := has_inR hs h
  have hT : castT s.1 w = (iand .u64 s.1.1 (msk k), iand .u64 s.1.2.1 (msk k), ()) := by unfold castT; rw [if_pos hw, hmk]
  have hmm : mayT (castT s.1 w) := fun i => by
    rw [hT]
    show (bit (iand .u64 s.1.1 (msk k)) i && bit (iand .u64 s.1.2.1 (msk k)) i) = false
    have := may_iff.1 hm i
    rw [bit_iand, bit_iand]
    revert this
    cases bit s.1.1 i <;> cases bit s.1.2.1 i <;> simp
  have hh : hasT (castT s.1 w) (iand .u64 x (msk k)) = true := hasT_iff.2 fun i hi => by
    rw [hT] at hi ⊢
    have hi : bit (iand .u64 s.1.2.1 (msk k)) i = false := hi
    show bit (iand .u64 x (msk k)) i = bit (iand .u64 s.1.1 (msk k)) i
    rw [bit_iand] at hi
    rw [bit_iand, bit_iand]
    cases hb : bit (msk k) i
    · simp
    · rw [hb] at hi
      rw [hasT_iff.1 h3 i (by simpa using hi)]
  have hRT : RT (castT s.1 w) := by rw [hT]; exact ⟨inR_iand _ _, inR_iand _ _⟩
  have hmk' := inR_msk (show k ≤ 64 by omega)
  have hy := and_le x (show k ≤ 64 by omega)
  have use : ∀ r : Sc, RS r → may r = true → hasS r (iand .u64 x (msk k)) = true → hasS (tg r) (iand .u64 x (msk k)) = true := fun r h1 h2 h3 => by
    have := keepB h1 h2 (inR_iand x (msk k))
    rw [h3] at this
    have := this.symm
    rw [Bool.and_eq_true] at this
    exact this.2
  unfold castS
  rw [if_pos hw, hmk]
  split
  · exact use _ ⟨hRT, inR0, hmk'⟩ (may_iff.2 hmm) (hasS_iff.2 ⟨hy.1, hy.2, hh⟩)
  · rename_i hc
    rw [and_id (by omega) hx (by omega)] at hh ⊢
    have := use (castT s.1 w, s.2.1, s.2.2.1, ()) ⟨hRT, hs.2.1, hs.2.2⟩ (may_iff.2 hmm)
    rw [and_id (by omega) hx (by omega)] at this
    exact this (hasS_iff.2 ⟨h1, h2, hh⟩)
end Go.Proofs
