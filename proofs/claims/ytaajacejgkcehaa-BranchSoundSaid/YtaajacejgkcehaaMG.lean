import Derived.Test.YtaajacejgkcehaaMF
namespace Go.Proofs
open Go.GX
set_option linter.unusedVariables false
set_option linter.unusedSimpArgs false
theorem lw_id {w : Bool} {x : Int} (hx : InR x) (h : w = false → x < 4294967296) : lw w x = x := by
  cases w
  · show iand .u64 x 4294967295 = x
    have := and_id (k := 32) (by omega) hx (by rw [show msk 32 = 4294967295 from rfl]; have := h rfl; omega)
    rw [show msk 32 = 4294967295 from rfl] at this
    exact this
  · rfl
theorem sw_id {w : Bool} {x : Int} (hx : InR x) (h : x < half w) : sw w x = x := by
  unfold InR at hx
  cases w
  · have h : x < 2147483648 := h
    show IntKind.wrap .i64 (IntKind.wrap .i32 x) = x
    rw [wi32 (by omega), wi64 (by omega)]
  · have h : x < 9223372036854775808 := h
    show IntKind.wrap .i64 x = x
    rw [wi64 (by omega)]
theorem skp_f {sg w : Bool} {a b : Sc} (h : skp sg w a b = false) : (w = false → a.2.2.1 < 4294967296 ∧ b.2.2.1 < 4294967296) ∧ (sg = true → a.2.2.1 < half w ∧ b.2.2.1 < half w) := by
  unfold skp at h
  simp only [Bool.or_eq_false_iff, Bool.and_eq_false_iff, decide_eq_false_iff_not] at h
  obtain ⟨h1, h2⟩ := h
  refine ⟨fun hw => ?_, fun hs => ?_⟩
  · subst hw
    rcases h1 with h1 | h1
    · cases h1
    · omega
  · subst hs
    rcases h2 with h2 | h2
    · cases h2
    · omega
theorem rf_snd {op : Int} {w : Bool} {a b : Sc} {x y : Int} (ra : RS a) (rb : RS b) (ma : may a = true) (mb : may b = true) (hx : hasS a x = true) (hy : hasS b y = true)
    (ht : (ts2 op w x y).1 = true) (hk : (ts2 op w x y).2.1 = true) : Snd (rf op w a b) x y := by
  unfold rf
  by_cases hn : notF op < 0
  · rw [if_pos hn]; exact ⟨a, b, rfl, hx, hy⟩
  rw [if_neg hn]
  unfold rfO
  cases hs : skp (sgn op) w a b
  · obtain ⟨k1, k2⟩ := skp_f hs
    have ix := has_inR ra hx
    have iy := has_inR rb hy
    have a2 := (hasS_iff.1 hx).2.1
    have b2 := (hasS_iff.1 hy).2.1
    have lx : lw w x = x := lw_id ix (fun e => by have := k1 e; omega)
    have ly : lw w y = y := lw_id iy (fun e => by have := k1 e; omega)
    have sx : sgn op = true → sw w x = x := fun e => sw_id ix (by have := k2 e; omega)
    have sy : sgn op = true → sw w y = y := fun e => sw_id iy (by have := k2 e; omega)
    show Snd (core op a b) x y
    by_cases h16 : op = 16
    · subst h16; have ht : decide (lw w x = lw w y) = true := ht; rw [lx, ly] at ht; have ht := of_decide_eq_true ht; subst ht; exact mtt_snd ra rb ma mb hx hy
    by_cases h32 : op = 32
    · subst h32; have ht : decide (lw w x > lw w y) = true := ht; rw [lx, ly] at ht; exact abv_t ra rb ma mb hx hy (of_decide_eq_true ht)
    by_cases h48 : op = 48
    · subst h48; have ht : decide (lw w x ≥ lw w y) = true := ht; rw [lx, ly] at ht; exact abv_f ra rb ma mb hx hy (of_decide_eq_true ht)
    by_cases h64 : op = 64
    · subst h64; have ht : (!decide (iand .u64 (lw w x) (lw w y) = 0)) = true := ht; rw [lx, ly] at ht; exact shr_snd ra rb ma mb hx hy (by simpa using ht)
    by_cases h68 : op = 68
    · subst h68; have ht : (!(!decide (iand .u64 (lw w x) (lw w y) = 0))) = true := ht; rw [lx, ly] at ht; exact nsh_snd ra rb ma mb hx hy (by simpa using ht)
    by_cases h80 : op = 80
    · subst h80; have ht : (!decide (lw w x = lw w y)) = true := ht; rw [lx, ly] at ht; exact dif_snd ra rb ma mb hx hy (by simpa using ht)
    by_cases h96 : op = 96
    · subst h96; have ht : decide (sw w (lw w x) > sw w (lw w y)) = true := ht; rw [lx, ly, sx rfl, sy rfl] at ht; exact abv_t ra rb ma mb hx hy (of_decide_eq_true ht)
    by_cases h112 : op = 112
    · subst h112; have ht : decide (sw w (lw w x) ≥ sw w (lw w y)) = true := ht; rw [lx, ly, sx rfl, sy rfl] at ht; exact abv_f ra rb ma mb hx hy (of_decide_eq_true ht)
    by_cases h160 : op = 160
    · subst h160; have ht : decide (lw w x < lw w y) = true := ht; rw [lx, ly] at ht; exact swp_snd (abv_t rb ra mb ma hy hx (of_decide_eq_true ht))
    by_cases h176 : op = 176
    · subst h176; have ht : decide (lw w x ≤ lw w y) = true := ht; rw [lx, ly] at ht; exact swp_snd (abv_f rb ra mb ma hy hx (of_decide_eq_true ht))
    by_cases h192 : op = 192
    · subst h192; have ht : decide (sw w (lw w x) < sw w (lw w y)) = true := ht; rw [lx, ly, sx rfl, sy rfl] at ht; exact swp_snd (abv_t rb ra mb ma hy hx (of_decide_eq_true ht))
    by_cases h208 : op = 208
    · subst h208; have ht : decide (sw w (lw w x) ≤ sw w (lw w y)) = true := ht; rw [lx, ly, sx rfl, sy rfl] at ht; exact swp_snd (abv_f rb ra mb ma hy hx (of_decide_eq_true ht))
    exact absurd (notF_n h16 h32 h48 h64 h68 h80 h96 h112 h160 h176 h192 h208) (by omega)
  · exact ⟨a, b, rfl, hx, hy⟩
theorem ts2_not {op : Int} (w : Bool) (x y : Int) (h : ¬ notF op < 0) : (ts2 op w x y).2.1 = true ∧ (ts2 (notF op) w x y).1 = !(ts2 op w x y).1 ∧ (ts2 (notF op) w x y).2.1 = true := by
  by_cases h16 : op = 16
  · subst h16; exact ⟨rfl, rfl, rfl⟩
  by_cases h32 : op = 32
  · subst h32; exact ⟨rfl, by show decide (_ ≤ _) = !decide (_ > _); rw [← decide_not]; exact decide_eq_decide.2 Int.not_lt.symm, rfl⟩
  by_cases h48 : op = 48
  · subst h48; exact ⟨rfl, by show decide (_ < _) = !decide (_ ≥ _); rw [← decide_not]; exact decide_eq_decide.2 Int.not_le.symm, rfl⟩
  by_cases h64 : op = 64
  · subst h64; exact ⟨rfl, rfl, rfl⟩
  by_cases h68 : op = 68
  · subst h68; exact ⟨rfl, (Bool.not_not _).symm, rfl⟩
  by_cases h80 : op = 80
  · subst h80; exact ⟨rfl, (Bool.not_not _).symm, rfl⟩
  by_cases h96 : op = 96
  · subst h96; exact ⟨rfl, by show decide (_ ≤ _) = !decide (_ > _); rw [← decide_not]; exact decide_eq_decide.2 Int.not_lt.symm, rfl⟩
  by_cases h112 : op = 112
  · subst h112; exact ⟨rfl, by show decide (_ < _) = !decide (_ ≥ _); rw [← decide_not]; exact decide_eq_decide.2 Int.not_le.symm, rfl⟩
  by_cases h160 : op = 160
  · subst h160; exact ⟨rfl, by show decide (_ ≥ _) = !decide (_ < _); rw [← decide_not]; exact decide_eq_decide.2 Int.not_lt.symm, rfl⟩
  by_cases h176 : op = 176
  · subst h176; exact ⟨rfl, by show decide (_ > _) = !decide (_ ≤ _); rw [← decide_not]; exact decide_eq_decide.2 Int.not_le.symm, rfl⟩
  by_cases h192 : op = 192
  · subst h192; exact ⟨rfl, by show decide (_ ≥ _) = !decide (_ < _); rw [← decide_not]; exact decide_eq_decide.2 Int.not_lt.symm, rfl⟩
  by_cases h208 : op = 208
  · subst h208; exact ⟨rfl, by show decide (_ > _) = !decide (_ ≤ _); rw [← decide_not]; exact decide_eq_decide.2 Int.not_le.symm, rfl⟩
  exact absurd (notF_n h16 h32 h48 h64 h68 h80 h96 h112 h160 h176 h192 h208) (by omega)
theorem notF_notF {op : Int} (h : ¬ notF op < 0) : notF (notF op) = op := by
  by_cases h16 : op = 16
  · subst h16; rfl
  by_cases h32 : op = 32
  · subst h32; rfl
  by_cases h48 : op = 48
  · subst h48; rfl
  by_cases h64 : op = 64
  · subst h64; rfl
  by_cases h68 : op = 68
  · subst h68; rfl
  by_cases h80 : op = 80
  · subst h80; rfl
  by_cases h96 : op = 96
  · subst h96; rfl
  by_cases h112 : op = 112
  · subst h112; rfl
  by_cases h160 : op = 160
  · subst h160; rfl
  by_cases h176 : op = 176
  · subst h176; rfl
  by_cases h192 : op = 192
  · subst h192; rfl
  by_cases h208 : op = 208
  · subst h208; rfl
  exact absurd (notF_n h16 h32 h48 h64 h68 h80 h96 h112 h160 h176 h192 h208) (by omega)
theorem alw_snd {op : Int} {w : Bool} {a b : Sc} {x y : Int} (ra : RS a) (rb : RS b) (ma : may a = true) (mb : may b = true) (hx : hasS a x = true) (hy : hasS b y = true)
    (h : (alw op w a b).2.1 = true) : (ts2 op w x y).2.1 = true ∧ (ts2 op w x y).1 = (alw op w a b).1 := by
  unfold alw at h ⊢
  by_cases hn : notF op < 0
  · rw [if_pos hn] at h; cases h
  rw [if_neg hn] at h ⊢
  obtain ⟨t1, t2, t3⟩ := ts2_not w x y hn
  refine ⟨t1, ?_⟩
  cases h1 : (rf op w a b).2.2.1
  · rw [h1] at h
    show _ = false
    cases h3 : (ts2 op w x y).1
    · rfl
    · obtain ⟨s, t, e, _⟩ := rf_snd ra rb ma mb hx hy h3 t1
      rw [e] at h1; cases h1
  · rw [h1] at h
    cases h2 : (rf (notF op) w a b).2.2.1
    · show _ = true
      cases h3 : (ts2 op w x y).1
      · rw [h3] at t2
        obtain ⟨s, t, e, _⟩ := rf_snd ra rb ma mb hx hy t2 t3
        rw [e] at h2; cases h2
      · rfl
    · rw [h2] at h; cases h
theorem alw_v {op : Int} {w : Bool} {a b : Sc} (h : (alw op w a b).2.1 = false) : (alw op w a b).1 = false := by
  unfold alw at h ⊢
  by_cases hn : notF op < 0
  · rw [if_pos hn]
  rw [if_neg hn] at h ⊢
  cases h1 : (rf op w a b).2.2.1
  · rfl
  · rw [h1] at h
    cases h2 : (rf (notF op) w a b).2.2.1
    · rw [h2] at h; cases h
    · rfl
/-! ## Never wider -/
def Nrw (s a : Sc) : Prop := a.2.1 ≤ s.2.1 ∧ s.2.2.1 ≤ a.2.2.1
theorem Nrw.refl (a : Sc) : Nrw a a := ⟨Int.le_refl _, Int.le_refl _⟩
theorem Nrw.trans {a b c : Sc} (h : Nrw a b) (k : Nrw b c) : Nrw a c := ⟨Int.le_trans k.1 h.1, Int.le_trans h.2 k.2⟩
theorem rnd_nrw {s t : Sc} (h : rnd s = some t) : Nrw t s := by
  unfold rnd at h
  split at h
  · split at h
    · cases h
      exact ⟨((mn_le s).1 (Int.le_refl _)).2, ((le_mx s).1 (Int.le_refl _)).2⟩
    · cases h
  · cases h
theorem rnds_nrw : ∀ (n : Nat) {s t : Sc}, rnds n s = some t → Nrw t s
  | 0, s, t, h => by simp [rnds] at h; subst h; exact Nrw.refl _
  | n + 1, s, t, h => by
    simp only [rnds] at h
    cases e : rnd s with
    | none => rw [e] at h; cases h
    | some u => rw [e] at h; exact (rnds_nrw n h).trans (rnd_nrw e)
theorem tgt_nrw {s t : Sc} (h : tgt s = some t) : Nrw t s := by
  unfold tgt at h
  split at h
  · exact rnds_nrw 3 h
  · cases h
def Nar (r : R3) (a b : Sc) : Prop := r.2.2.1 = true → Nrw r.1 a ∧ Nrw r.2.1 b
theorem zz_nar (a b : Sc) : Nar zz a b := fun h => by cases h
theorem knw_nar {a b a' b' : Sc} {ok : Bool} (ha : Nrw a' a) (hb : Nrw b' b) : Nar (knw a' b' ok) a b := by
  intro h
  unfold knw at h ⊢
  cases ok
  · cases h
  · cases h1 : tgt a' with
    | none => rw [h1] at h; cases h
    | some s =>
      cases h2 : tgt b' with
      | none => rw [h1, h2] at h; cases h
      | some t => exact ⟨(tgt_nrw h1).trans ha, (tgt_nrw h2).trans hb⟩
theorem swp_nar {r : R3} {a b : Sc} (h : Nar r b a) : Nar (swp r) a b := fun e => let ⟨h1, h2⟩ := h e; ⟨h2, h1⟩
theorem abv_nar (a b : Sc) (s : Bool) : Nar (abv a b s) a b := by
  have h : ∀ m, Nar (knw (hiA a b m) (loB a b m) true) a b := by
    intro m
    refine knw_nar ⟨?_, Int.le_refl _⟩ ⟨Int.le_refl _, ?_⟩
    · show a.2.1 ≤ (if IntKind.wrap .u64 (b.2.1 + m) > a.2.1 then IntKind.wrap .u64 (b.2.1 + m) else a.2.1)
      split <;> omega
    · show (if IntKind.wrap .u64 (a.2.2.1 - m) < b.2.2.1 then IntKind.wrap .u64 (a.2.2.1 - m) else b.2.2.1) ≤ b.2.2.1
      split <;> omega
  unfold abv
  cases s
  · exact h 0
  · generalize decide (b.2.1 = 18446744073709551615) = p
    generalize decide (a.2.2.1 = 0) = q
    cases p <;> cases q <;> first | exact zz_nar _ _ | exact h 1
theorem mtt_nar (a b : Sc) : Nar (mtt a b) a b := by
  unfold mtt
  cases metB a.1 b.1
  · exact zz_nar _ _
  · refine knw_nar ⟨?_, ?_⟩ ⟨?_, ?_⟩
    · show a.2.1 ≤ (if b.2.1 > a.2.1 then b.2.1 else a.2.1); split <;> omega
    · show (if b.2.2.1 < a.2.2.1 then b.2.2.1 else a.2.2.1) ≤ a.2.2.1; split <;> omega
    · show b.2.1 ≤ (if b.2.1 > a.2.1 then b.2.1 else a.2.1); split <;> omega
    · show (if b.2.2.1 < a.2.2.1 then b.2.2.1 else a.2.2.1) ≤ b.2.2.1; split <;> omega
theorem edg_nrw {a s : Sc} {c : Int} (ra : RS a) (h : edg a c = some s) : Nrw s a := by
  have r3 := ra.2.1
  have r4 := ra.2.2
  unfold InR at r3 r4
  unfold edg edgL at h
  have key : ∀ t : Sc, t.2.2 = a.2.2 → a.2.1 ≤ t.2.1 → edgH t c = some s → Nrw s a := by
    intro t ht h1 h2
    have ht' : t.2.2.1 = a.2.2.1 := by rw [ht]
    unfold edgH at h2
    split at h2
    · split at h2
      · cases h2
      · cases h2
        refine ⟨h1, ?_⟩
        show IntKind.wrap .u64 (t.2.2.1 - 1) ≤ a.2.2.1
        rw [wu64 (by omega)]; omega
    · cases h2; exact ⟨h1, by rw [ht']; exact Int.le_refl _⟩
  split at h
  · split at h
    · cases h
    · refine key (a.1, IntKind.wrap .u64 (a.2.1 + 1), a.2.2) rfl ?_ h
      show a.2.1 ≤ IntKind.wrap .u64 (a.2.1 + 1)
      rw [wu64 (by omega)]; omega
  · exact key a rfl (Int.le_refl _) h
theorem dif_nar {a b : Sc} (ra : RS a) (rb : RS b) : Nar (dif a b) a b := by
  unfold dif
  generalize ((onl a).2.1 && (onl b).2.1 && decide ((onl a).1 = (onl b).1)) = e
  cases e
  · have e1 : ∀ s, (bif (onl b).2.1 then edg a (onl b).1 else some a) = some s → Nrw s a := by
      intro s h
      cases h2 : (onl b).2.1
      · rw [h2] at h; cases h; exact Nrw.refl _
      · rw [h2] at h; exact edg_nrw ra h
    have e2 : ∀ s, (bif (onl a).2.1 then edg b (onl a).1 else some b) = some s → Nrw s b := by
      intro s h
      cases h2 : (onl a).2.1
      · rw [h2] at h; cases h; exact Nrw.refl _
      · rw [h2] at h; exact edg_nrw rb h
    show Nar (two2 _ _) a b
    revert e1 e2
    generalize (bif (onl b).2.1 then edg a (onl b).1 else some a) = x
    generalize (bif (onl a).2.1 then edg b (onl a).1 else some b) = y
    intro e1 e2
    cases x with
    | none => exact zz_nar _ _
    | some s =>
      cases y with
      | none => exact zz_nar _ _
      | some t => exact knw_nar (e1 s rfl) (e2 t rfl)
  · exact zz_nar _ _
theorem shr_nar (a b : Sc) : Nar (shr a b) a b := by
  unfold shr
  generalize decide (iand .u64 (ior .u64 a.1.1 a.1.2.1) (ior .u64 b.1.1 b.1.2.1) = 0) = e
  generalize ((onl b).2.1 && pow2 (onl b).1) = f
  cases e
  · cases f
    · show Nar (knw a b true) a b
      exact knw_nar (Nrw.refl _) (Nrw.refl _)
    · show Nar (knw (setA a (onl b).1) b true) a b
      exact knw_nar ⟨Int.le_refl _, Int.le_refl _⟩ (Nrw.refl _)
  · exact zz_nar _ _
theorem nsh_nar (a b : Sc) : Nar (nsh a b) a b := by
  unfold nsh
  generalize decide (iand .u64 a.1.1 b.1.1 = 0) = e
  generalize (onl b).2.1 = f
  cases e
  · exact zz_nar _ _
  · cases f
    · show Nar (knw a b true) a b
      exact knw_nar (Nrw.refl _) (Nrw.refl _)
    · show Nar (knw (clrA a (onl b).1) b true) a b
      exact knw_nar ⟨Int.le_refl _, Int.le_refl _⟩ (Nrw.refl _)
theorem rf_nar {op : Int} {w : Bool} {a b : Sc} (ra : RS a) (rb : RS b) : Nar (rf op w a b) a b := by
  unfold rf
  by_cases hn : notF op < 0
  · rw [if_pos hn]; exact fun _ => ⟨Nrw.refl _, Nrw.refl _⟩
  rw [if_neg hn]
  unfold rfO
  cases skp (sgn op) w a b
  · show Nar (core op a b) a b
    by_cases h16 : op = 16
    · subst h16; exact mtt_nar a b
    by_cases h32 : op = 32
    · subst h32; exact abv_nar a b true
    by_cases h48 : op = 48
    · subst h48; exact abv_nar a b false
    by_cases h64 : op = 64
    · subst h64; exact shr_nar a b
    by_cases h68 : op = 68
    · subst h68; exact nsh_nar a b
    by_cases h80 : op = 80
    · subst h80; exact dif_nar ra rb
    by_cases h96 : op = 96
    · subst h96; exact abv_nar a b true
    by_cases h112 : op = 112
    · subst h112; exact abv_nar a b false
    by_cases h160 : op = 160
    · subst h160; exact swp_nar (abv_nar b a true)
    by_cases h176 : op = 176
    · subst h176; exact swp_nar (abv_nar b a false)
    by_cases h192 : op = 192
    · subst h192; exact swp_nar (abv_nar b a true)
    by_cases h208 : op = 208
    · subst h208; exact swp_nar (abv_nar b a false)
    exact absurd (notF_n h16 h32 h48 h64 h68 h80 h96 h112 h160 h176 h192 h208) (by omega)
  · exact fun _ => ⟨Nrw.refl _, Nrw.refl _⟩
end Go.Proofs
