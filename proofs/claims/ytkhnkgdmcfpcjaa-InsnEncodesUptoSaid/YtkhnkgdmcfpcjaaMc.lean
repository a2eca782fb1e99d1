import Derived.Test.YtkhnkgdmcfpcjaaMb
namespace Go.Proofs
open Go.GX
set_option linter.unusedVariables false
set_option linter.unusedSimpArgs false
theorem V10_end {out : List I} : V10_0 ([], out, ()) = some (.inr (out, ())) := by
  show R10_0 _ _ [] out = _
  unfold R10_0
  refine (bif_f rfl).trans ((bif_t ?_).trans ?_)
  · simp only [tt_eq, Bool.and_eq_true, decide_eq_true_eq]; omega
  · rw [sec_full (l := out) rfl]
theorem W10_eq {s : List UInt8} {n : Nat} (hs : s.length ≤ 16777216) (hn : s.length = 8 * n) : wh V10_0 (s, [], ()) = some (dec n s, ()) := by
  have := wh_steps (f := V10_0) (fun i => (s.drop (8 * i), dec i s, ())) n (fun i hi => by
    rw [V10_ok (by rw [List.length_drop]; omega) (by rw [List.length_drop]; omega) (by rw [dec_length]; omega), List.drop_drop, dec_add]
    rfl)
  rw [show s.drop (8 * n) = [] by rw [List.drop_eq_nil_iff]; omega] at this
  exact this.trans (wh_stop V10_end)
def decR (s : List UInt8) : List I × Int × Unit := if s.length % 8 = 0 then (dec (s.length / 8) s, 0, ()) else ([], 30, ())
theorem E10_eq {s : List UInt8} (hs : s.length ≤ 16777216) : E10 (s, ()) = some (decR s) := by
  show S10 W10_0 Q10_0 s = _
  unfold S10 decR
  rw [iand_low .i64 _ 7 8 3 rfl rfl (by decide)]
  by_cases h : s.length % 8 = 0
  · rw [if_pos h]
    refine (bif_f (by rw [decide_eq_true (by omega)]; rfl)).trans ?_
    have hw := W10_eq (n := s.length / 8) hs (by omega)
    have e1 : W10_0 (s, [], ()) = (dec (s.length / 8) s, ()) := whV_of (hd := hd10_0) (ys := ys10_0) hw
    have e2 : Q10_0 (s, [], ()) = true := whK_of (hd := hd10_0) (ys := ys10_0) hw
    rw [e1, e2]
    refine (bif_t ?_).trans ?_
    · simp only [tt_eq, Bool.and_eq_true, decide_eq_true_eq, true_and, and_true]; omega
    · rw [sec_full rfl]
  · rw [if_neg h]
    exact bif_t (by rw [decide_eq_false (by omega)]; rfl)
/-! ## the reference's Decode -/
theorem E25_n {s : List UInt8} {n : Nat} (hn : s.length = n) (h : n ≤ 8) {v : Int} (hw : wh V25_0 (s, 0, IntKind.wrap .i64 ((if 8 < (s.length : Int) then 8 else (s.length : Int)) - 1), ()) = some (v, ())) : E25 (s, ()) = some v := by
  show S25 W25_0 Q25_0 s = _
  unfold S25
  have e1 : W25_0 (s, 0, IntKind.wrap .i64 ((if 8 < (s.length : Int) then 8 else (s.length : Int)) - 1), ()) = (v, ()) := whV_of (hd := hd25_0) (ys := ys25_0) hw
  have e2 : Q25_0 (s, 0, IntKind.wrap .i64 ((if 8 < (s.length : Int) then 8 else (s.length : Int)) - 1), ()) = true := whK_of (hd := hd25_0) (ys := ys25_0) hw
  rw [e1, e2]; rfl
theorem V25_ok {s : List UInt8} {i : Nat} {x b : Int} (hs : s.length ≤ 8) (hi : i < s.length) (hb : ((s.getD i 0).toNat : Int) = b) (hx : 0 ≤ x ∧ x < 72057594037927936) : V25_0 (s, x, (i : Int), ()) = some (.inl (s, x * 256 + b, (i : Int) - 1, ())) := by
  show R25_0 _ _ s x (i : Int) = _
  unfold R25_0
  rw [show Int.toNat (i : Int) = i from rfl, hb]
  have hbb := by8 (s.getD i 0)
  refine (bif_t (decide_eq_true (by omega))).trans ((bif_t ?_).trans ?_)
  · simp only [tt_eq, Bool.and_eq_true, decide_eq_true_eq]; omega
  · rw [wi64 (by omega), ior_wr, ishl_k .u64 x 8 8 256 rfl rfl, ior_wl, ior_comm, ior_add .u64 b x 256 8 rfl (by omega) hx.1 (by show _ < (2:Int)^64; omega), wu64 (by omega)]
theorem V25_end {s : List UInt8} {x : Int} : V25_0 (s, x, -1, ()) = some (.inr (x, ())) := rfl
theorem E25_2 {s : List UInt8} (hn : s.length = 2) : E25 (s, ()) = some (((s.getD 0 0).toNat : Int) + 256 * ((s.getD 1 0).toNat : Int)) := by
  have h0 := by8 (s.getD 0 0); have h1 := by8 (s.getD 1 0)
  refine E25_n hn (by omega) ?_
  rw [hn, show IntKind.wrap .i64 ((if 8 < ((2 : Nat) : Int) then 8 else ((2 : Nat) : Int)) - 1) = ((1 : Nat) : Int) by decide]
  rw [wh_next (V25_ok (by omega) (by omega) rfl (by omega)), show ((1 : Nat) : Int) - 1 = ((0 : Nat) : Int) from rfl, wh_next (V25_ok (by omega) (by omega) rfl (by omega)), show ((0 : Nat) : Int) - 1 = -1 from rfl, wh_stop V25_end]
  congr 2; omega
theorem E25_4 {s : List UInt8} (hn : s.length = 4) : E25 (s, ()) = some (((s.getD 0 0).toNat : Int) + 256 * ((s.getD 1 0).toNat : Int) + 65536 * ((s.getD 2 0).toNat : Int) + 16777216 * ((s.getD 3 0).toNat : Int)) := by
  have h0 := by8 (s.getD 0 0); have h1 := by8 (s.getD 1 0); have h2 := by8 (s.getD 2 0); have h3 := by8 (s.getD 3 0)
  refine E25_n hn (by omega) ?_
  rw [hn, show IntKind.wrap .i64 ((if 8 < ((4 : Nat) : Int) then 8 else ((4 : Nat) : Int)) - 1) = ((3 : Nat) : Int) by decide]
  rw [wh_next (V25_ok (by omega) (by omega) rfl (by omega)), show ((3 : Nat) : Int) - 1 = ((2 : Nat) : Int) from rfl, wh_next (V25_ok (by omega) (by omega) rfl (by omega)), show ((2 : Nat) : Int) - 1 = ((1 : Nat) : Int) from rfl,
    wh_next (V25_ok (by omega) (by omega) rfl (by omega)), show ((1 : Nat) : Int) - 1 = ((0 : Nat) : Int) from rfl, wh_next (V25_ok (by omega) (by omega) rfl (by omega)), show ((0 : Nat) : Int) - 1 = -1 from rfl, wh_stop V25_end]
  congr 2; omega
theorem F25_2 {s : List UInt8} (hn : s.length = 2) : F25 (s, ()) = ((s.getD 0 0).toNat : Int) + 256 * ((s.getD 1 0).toNat : Int) ∧ G25 (s, ()) = true :=
  ⟨by show (E25 _).getD _ = _; rw [E25_2 hn]; rfl, by show (E25 _).isSome = _; rw [E25_2 hn]; rfl⟩
theorem F25_4 {s : List UInt8} (hn : s.length = 4) : F25 (s, ()) = ((s.getD 0 0).toNat : Int) + 256 * ((s.getD 1 0).toNat : Int) + 65536 * ((s.getD 2 0).toNat : Int) + 16777216 * ((s.getD 3 0).toNat : Int) ∧ G25 (s, ()) = true :=
  ⟨by show (E25 _).getD _ = _; rw [E25_4 hn]; rfl, by show (E25 _).isSome = _; rw [E25_4 hn]; rfl⟩
theorem dropTake_length {s : List UInt8} {l h : Nat} (h1 : l ≤ h) (h2 : h ≤ s.length) : (dropTake s l h).length = h - l := by
  unfold dropTake; rw [List.length_take, List.length_drop]; omega
theorem dropTake_getD {s : List UInt8} {l h i : Nat} (h1 : i < h - l) : (dropTake s l h).getD i 0 = (s.drop l).getD i 0 := by
  unfold dropTake
  simp only [List.getD, List.getElem?_take, if_pos h1]
theorem drop_getD {s : List UInt8} {l i : Nat} : (s.drop l).getD i 0 = s.getD (l + i) 0 := by
  simp only [List.getD, List.getElem?_drop]
theorem V11_ok {s : List UInt8} {k : Nat} {out : List I} (hk : 8 * k + 8 ≤ s.length) (hs : s.length ≤ 16777216) (ho : out.length = k) : V11_0 (s, out, ((8 * k : Nat) : Int), ()) = some (.inl (s, out ++ [of8 (s.drop (8 * k))], ((8 * (k + 1) : Nat) : Int), ())) := by
  show R11_0 F25 G25 _ _ s out ((8 * k : Nat) : Int) = _
  unfold R11_0
  rw [wi64 (a := ((8 * k : Nat) : Int) + 8) (by omega), wi64 (a := ((8 * k : Nat) : Int) + 4) (by omega), wi64 (a := ((8 * k : Nat) : Int) + 2) (by omega), wi64 (a := ((8 * k : Nat) : Int) + 1) (by omega)]
  have t8 : Int.toNat (((8 * k : Nat) : Int) + 8) = 8 * k + 8 := rfl
  have t4 : Int.toNat (((8 * k : Nat) : Int) + 4) = 8 * k + 4 := rfl
  have t2 : Int.toNat (((8 * k : Nat) : Int) + 2) = 8 * k + 2 := rfl
  have t1 : Int.toNat (((8 * k : Nat) : Int) + 1) = 8 * k + 1 := rfl
  rw [t8, t4, t2, t1, show Int.toNat ((8 * k : Nat) : Int) = 8 * k from rfl]
  obtain ⟨a1, a2⟩ := F25_2 (s := dropTake s (8 * k + 2) (8 * k + 4)) (by rw [dropTake_length (by omega) (by omega)]; omega)
  obtain ⟨b1, b2⟩ := F25_4 (s := dropTake s (8 * k + 4) (8 * k + 8)) (by rw [dropTake_length (by omega) (by omega)]; omega)
  rw [dropTake_getD (by omega), dropTake_getD (by omega), drop_getD, drop_getD] at a1
  rw [dropTake_getD (by omega), dropTake_getD (by omega), dropTake_getD (by omega), dropTake_getD (by omega), drop_getD, drop_getD, drop_getD, drop_getD] at b1
  rw [a1, a2, b1, b2]
  refine (bif_t (decide_eq_true (by omega))).trans ((bif_t ?_).trans ?_)
  · simp only [tt_eq, Bool.and_eq_true, decide_eq_true_eq, true_and, and_true]
    omega
  · rw [sec_full (l := out) rfl, sec_full (by rw [List.length_append]; rfl)]
    have hb0 := by8 (s.getD (8 * k) 0)
    have hb := by8 (s.getD (8 * k + 1) 0)
    rw [wi64 (a := ((s.getD (8 * k) 0).toNat : Int)) (by omega), wi64 (a := ((s.getD (8 * k + 1) 0).toNat : Int)) (by omega), iand_low .i64 _ 15 16 4 rfl rfl (by decide), ishr_k .i64 _ 4 4 16 rfl rfl]
    rw [wi64 (a := IntKind.wrap .i16 _) (by rw [wrap_i16]; split <;> omega), wi64 (a := IntKind.wrap .i32 _) (by rw [wrap_i32]; split <;> omega)]
    unfold of8
    simp only [drop_getD]
    rfl
theorem V11_end {s : List UInt8} {out : List I} : V11_0 (s, out, (s.length : Int), ()) = some (.inr (out, ())) := by
  show R11_0 F25 G25 _ _ s out (s.length : Int) = _
  unfold R11_0
  refine (bif_f (decide_eq_false (by omega))).trans ((bif_t ?_).trans ?_)
  · simp only [tt_eq, Bool.and_eq_true, decide_eq_true_eq]; omega
  · rw [sec_full (l := out) rfl]
theorem W11_eq {s : List UInt8} {n : Nat} (hs : s.length ≤ 16777216) (hn : s.length = 8 * n) : wh V11_0 (s, [], 0, ()) = some (dec n s, ()) := by
  have := wh_steps (f := V11_0) (fun i => (s, dec i s, ((8 * i : Nat) : Int), ())) n (fun i hi => by
    rw [V11_ok (by omega) hs (dec_length i s), dec_add])
  rw [← hn] at this
  exact this.trans (wh_stop V11_end)
theorem E11_eq {s : List UInt8} (hs : s.length ≤ 16777216) : E11 (s, ()) = some (decR s) := by
  show S11 F25 G25 W11_0 Q11_0 s = _
  unfold S11 decR
  rw [show Int.tmod (s.length : Int) 8 = (s.length : Int) % 8 from Int.tmod_eq_emod_of_nonneg (by omega)]
  by_cases h : s.length % 8 = 0
  · rw [if_pos h]
    refine (bif_f (by rw [decide_eq_true (by omega)]; rfl)).trans ?_
    have hw := W11_eq (n := s.length / 8) hs (by omega)
    have e1 : W11_0 (s, [], 0, ()) = (dec (s.length / 8) s, ()) := whV_of (hd := hd11_0) (ys := ys11_0) hw
    have e2 : Q11_0 (s, [], 0, ()) = true := whK_of (hd := hd11_0) (ys := ys11_0) hw
    rw [e1, e2]
    refine (bif_t ?_).trans ?_
    · simp only [tt_eq, Bool.and_eq_true, decide_eq_true_eq, true_and, and_true]; omega
    · rw [sec_full rfl]
  · rw [if_neg h]
    exact bif_t (by rw [decide_eq_false (by omega)]; rfl)
end Go.Proofs
