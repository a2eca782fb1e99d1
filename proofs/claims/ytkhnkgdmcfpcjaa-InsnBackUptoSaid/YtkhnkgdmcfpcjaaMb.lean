import Derived.Test.YtkhnkgdmcfpcjaaMa
namespace Go.Proofs
open Go.GX
set_option linter.unusedVariables false
set_option linter.unusedSimpArgs false
/-- the bytes of a number, the lowest first -/
theorem E24_2 (n : Int) (h : 0 ≤ n) : E24 (n, 2, ()) = some (bytesOf [n % 256, n / 256 % 256]) := by
  have v0 : V24_0 (n, 2, [0, 0], 0, ()) = some (.inl (n, 2, [IntKind.wrap .u8 (ishr .u64 n 0), 0], 1, ())) := by kernel_rfl
  have v1 : V24_0 (n, 2, [IntKind.wrap .u8 (ishr .u64 n 0), 0], 1, ()) = some (.inl (n, 2, [IntKind.wrap .u8 (ishr .u64 n 0), IntKind.wrap .u8 (ishr .u64 n 8)], 2, ())) := by kernel_rfl
  have v2 : V24_0 (n, 2, [IntKind.wrap .u8 (ishr .u64 n 0), IntKind.wrap .u8 (ishr .u64 n 8)], 2, ()) = some (.inr ([IntKind.wrap .u8 (ishr .u64 n 0), IntKind.wrap .u8 (ishr .u64 n 8)], ())) := by kernel_rfl
  have hw := (wh_next v0).trans ((wh_next v1).trans (wh_stop v2))
  have e0 : ishr .u64 n 0 = n := by rw [ishr_k .u64 n 0 0 1 rfl rfl]; omega
  have e8 : ishr .u64 n 8 = n / 256 := ishr_k .u64 n 8 8 256 rfl rfl
  rw [e0, e8, wrap_u8, wrap_u8] at hw
  have e1 : W24_0 (n, 2, [0, 0], 0, ()) = ([n % 256, n / 256 % 256], ()) := whV_of (hd := hd24_0) (ys := ys24_0) hw
  have e2 : Q24_0 (n, 2, [0, 0], 0, ()) = true := whK_of (hd := hd24_0) (ys := ys24_0) hw
  show S24 W24_0 Q24_0 n 2 = _
  unfold S24
  rw [show sec 0 ([] : List Int) 0 (Int.toNat 2) = [0, 0] from rfl, e1, e2]
  rfl
theorem E24_4 (n : Int) (h : 0 ≤ n) : E24 (n, 4, ()) = some (bytesOf [n % 256, n / 256 % 256, n / 65536 % 256, n / 16777216 % 256]) := by
  have v0 : V24_0 (n, 4, [0, 0, 0, 0], 0, ()) = some (.inl (n, 4, [IntKind.wrap .u8 (ishr .u64 n 0), 0, 0, 0], 1, ())) := by kernel_rfl
  have v1 : V24_0 (n, 4, [IntKind.wrap .u8 (ishr .u64 n 0), 0, 0, 0], 1, ()) = some (.inl (n, 4, [IntKind.wrap .u8 (ishr .u64 n 0), IntKind.wrap .u8 (ishr .u64 n 8), 0, 0], 2, ())) := by kernel_rfl
  have v2 : V24_0 (n, 4, [IntKind.wrap .u8 (ishr .u64 n 0), IntKind.wrap .u8 (ishr .u64 n 8), 0, 0], 2, ()) = some (.inl (n, 4, [IntKind.wrap .u8 (ishr .u64 n 0), IntKind.wrap .u8 (ishr .u64 n 8), IntKind.wrap .u8 (ishr .u64 n 16), 0], 3, ())) := by kernel_rfl
  have v3 : V24_0 (n, 4, [IntKind.wrap .u8 (ishr .u64 n 0), IntKind.wrap .u8 (ishr .u64 n 8), IntKind.wrap .u8 (ishr .u64 n 16), 0], 3, ()) = some (.inl (n, 4, [IntKind.wrap .u8 (ishr .u64 n 0), IntKind.wrap .u8 (ishr .u64 n 8), IntKind.wrap .u8 (ishr .u64 n 16), IntKind.wrap .u8 (ishr .u64 n 24)], 4, ())) := by kernel_rfl
  have v4 : V24_0 (n, 4, [IntKind.wrap .u8 (ishr .u64 n 0), IntKind.wrap .u8 (ishr .u64 n 8), IntKind.wrap .u8 (ishr .u64 n 16), IntKind.wrap .u8 (ishr .u64 n 24)], 4, ()) = some (.inr ([IntKind.wrap .u8 (ishr .u64 n 0), IntKind.wrap .u8 (ishr .u64 n 8), IntKind.wrap .u8 (ishr .u64 n 16), IntKind.wrap .u8 (ishr .u64 n 24)], ())) := by kernel_rfl
  have hw := (wh_next v0).trans ((wh_next v1).trans ((wh_next v2).trans ((wh_next v3).trans (wh_stop v4))))
  have e0 : ishr .u64 n 0 = n := by rw [ishr_k .u64 n 0 0 1 rfl rfl]; omega
  have e8 : ishr .u64 n 8 = n / 256 := ishr_k .u64 n 8 8 256 rfl rfl
  have e16 : ishr .u64 n 16 = n / 65536 := ishr_k .u64 n 16 16 65536 rfl rfl
  have e24 : ishr .u64 n 24 = n / 16777216 := ishr_k .u64 n 24 24 16777216 rfl rfl
  rw [e0, e8, e16, e24, wrap_u8, wrap_u8, wrap_u8, wrap_u8] at hw
  have e1 : W24_0 (n, 4, [0, 0, 0, 0], 0, ()) = ([n % 256, n / 256 % 256, n / 65536 % 256, n / 16777216 % 256], ()) := whV_of (hd := hd24_0) (ys := ys24_0) hw
  have e2 : Q24_0 (n, 4, [0, 0, 0, 0], 0, ()) = true := whK_of (hd := hd24_0) (ys := ys24_0) hw
  show S24 W24_0 Q24_0 n 4 = _
  unfold S24
  rw [show sec 0 ([] : List Int) 0 (Int.toNat 4) = [0, 0, 0, 0] from rfl, e1, e2]
  rfl
theorem F24_2 (n : Int) (h : 0 ≤ n) : F24 (n, 2, ()) = bytesOf [n % 256, n / 256 % 256] ∧ G24 (n, 2, ()) = true :=
  ⟨by show (E24 _).getD _ = _; rw [E24_2 n h]; rfl, by show (E24 _).isSome = _; rw [E24_2 n h]; rfl⟩
theorem F24_4 (n : Int) (h : 0 ≤ n) : F24 (n, 4, ()) = bytesOf [n % 256, n / 256 % 256, n / 65536 % 256, n / 16777216 % 256] ∧ G24 (n, 4, ()) = true :=
  ⟨by show (E24 _).getD _ = _; rw [E24_4 n h]; rfl, by show (E24 _).isSome = _; rw [E24_4 n h]; rfl⟩
def byt (l : List Int) : Prop := ∀ n ∈ l, 0 ≤ n ∧ n < 256
theorem toNat_bytesOf {l : List Int} (h : byt l) : List.map (fun b : UInt8 => (b.toNat : Int)) (bytesOf l) = l := by
  unfold bytesOf
  rw [List.map_map]
  conv => rhs; rw [← List.map_id l]
  apply List.map_congr_left
  intro n hn
  have := h n hn
  simp only [Function.comp, id]
  rw [UInt8.toNat_ofNat']
  omega
theorem byt_byI {a : I} (h : okI a = true) : byt (byI a) := by
  have h : 0 ≤ a.1 ∧ a.1 < 256 ∧ 0 ≤ a.2.1 ∧ a.2.1 < 16 ∧ 0 ≤ a.2.2.1 ∧ a.2.2.1 < 16 ∧ -32768 ≤ a.2.2.2.1 ∧ a.2.2.2.1 < 32768 ∧ -2147483648 ≤ a.2.2.2.2.1 ∧ a.2.2.2.2.1 < 2147483648 := of_decide_eq_true h
  intro n hn
  simp only [byI, by1, List.mem_cons, List.not_mem_nil, or_false] at hn
  rcases hn with rfl | rfl | rfl | rfl | rfl | rfl | rfl | rfl <;> constructor <;> omega
theorem V9_ok {l : List I} {i : Nat} {out : List Int} {a : I} (hl : l.length ≤ 16777216) (hi : i < l.length) (ha : l.getD i (0, 0, 0, 0, 0, ()) = a) (hw : WI a) (ho : out.length = 8 * i) (hk : okI a = true) :
    V9_0 (l, out, (i : Int), ()) = some (.inl (l, out ++ byI a, ((i + 1 : Nat) : Int), ())) := by
  have hb := byt_byI hk
  have h : 0 ≤ a.1 ∧ a.1 < 256 ∧ 0 ≤ a.2.1 ∧ a.2.1 < 16 ∧ 0 ≤ a.2.2.1 ∧ a.2.2.1 < 16 ∧ -32768 ≤ a.2.2.2.1 ∧ a.2.2.2.1 < 32768 ∧ -2147483648 ≤ a.2.2.2.2.1 ∧ a.2.2.2.2.1 < 2147483648 := of_decide_eq_true hk
  obtain ⟨op, dst, src, off, imm, _⟩ := a
  dsimp only at h
  show R9_0 F24 G24 _ _ l out (i : Int) = _
  unfold R9_0
  rw [show Int.toNat (i : Int) = i from rfl, ha]
  dsimp only
  obtain ⟨p1, p2⟩ := F24_2 (IntKind.wrap .u64 off) (by rw [wrap_u64]; omega)
  obtain ⟨p3, p4⟩ := F24_4 (IntKind.wrap .u64 imm) (by rw [wrap_u64]; omega)
  rw [p1, p2, p3, p4]
  refine (bif_t (decide_eq_true (by omega))).trans ((bif_f (decide_eq_false (by omega))).trans ((bif_f (decide_eq_false (by omega))).trans ((bif_f (decide_eq_false (by omega))).trans ((bif_f (decide_eq_false (by omega))).trans ((bif_f (decide_eq_false (by omega))).trans
    ((bif_f (decide_eq_false (by omega))).trans ((bif_f (decide_eq_false (by omega))).trans ((bif_f (decide_eq_false (by omega))).trans ((bif_f (decide_eq_false (by omega))).trans ((bif_f (decide_eq_false (by omega))).trans ((bif_t ?_).trans ?_)))))))))))
  · simp only [tt_eq, Bool.and_eq_true, decide_eq_true_eq, true_and, and_true]
    simp only [bytesOf, List.length_append, List.length_map, List.length_cons, List.length_nil]
    omega
  · rw [List.map_append, toNat_bytesOf (by intro n hn; simp only [List.mem_cons, List.not_mem_nil, or_false] at hn; rcases hn with rfl | rfl <;> constructor <;> omega),
      toNat_bytesOf (by intro n hn; simp only [List.mem_cons, List.not_mem_nil, or_false] at hn; rcases hn with rfl | rfl | rfl | rfl <;> constructor <;> omega)]
    rw [wi64 (a := (i : Int) + 1) (by omega), sec_full (l := out) rfl, sec_full (n := out.length + 2) (by rw [List.length_append]; rfl), sec_full (by rw [List.length_append, List.length_append]; rfl)]
    rw [wi64 (a := 16 * src) (by omega), wi64 (a := dst + 16 * src) (by omega), wu8 (by omega), wu8 (by omega), wrap_u64, wrap_u64]
    simp only [byI, by1, List.append_assoc, List.cons_append, List.nil_append]
    have q1 : off % 18446744073709551616 % 256 = off % 256 := by omega
    have q2 : off % 18446744073709551616 / 256 % 256 = off / 256 % 256 := by omega
    have q3 : imm % 18446744073709551616 % 256 = imm % 256 := by omega
    have q4 : imm % 18446744073709551616 / 256 % 256 = imm / 256 % 256 := by omega
    have q5 : imm % 18446744073709551616 / 65536 % 256 = imm / 65536 % 256 := by omega
    have q6 : imm % 18446744073709551616 / 16777216 % 256 = imm / 16777216 % 256 := by omega
    rw [q1, q2, q3, q4, q5, q6, show dst + 16 * src = src * 16 + dst by omega]
    rfl
theorem V9_bad {l : List I} {i : Nat} {out : List Int} {a : I} (hl : l.length ≤ 16777216) (hi : i < l.length) (ha : l.getD i (0, 0, 0, 0, 0, ()) = a) (hk : okI a = false) :
    V9_0 (l, out, (i : Int), ()) = some (.inr (.inr ([], 30, ()))) := by
  have hk := of_decide_eq_false hk
  obtain ⟨op, dst, src, off, imm, _⟩ := a
  dsimp only at hk
  show R9_0 F24 G24 _ _ l out (i : Int) = _
  unfold R9_0
  rw [show Int.toNat (i : Int) = i from rfl, ha]
  dsimp only
  have ob : tt 2 (decide (0 ≤ (i : Int)) && decide ((i : Int) < (l.length : Int))) = true := by
    simp only [tt_eq, Bool.and_eq_true, decide_eq_true_eq]; omega
  refine (bif_t (decide_eq_true (by omega))).trans ?_
  rw [Bool.cond_decide]; split; exact bif_t ob
  rw [Bool.cond_decide]; split; exact bif_t ob
  rw [Bool.cond_decide]; split; exact bif_t ob
  rw [Bool.cond_decide]; split; exact bif_t ob
  rw [Bool.cond_decide]; split; exact bif_t ob
  rw [Bool.cond_decide]; split; exact bif_t ob
  rw [Bool.cond_decide]; split; exact bif_t ob
  rw [Bool.cond_decide]; split; exact bif_t ob
  rw [Bool.cond_decide]; split; exact bif_t ob
  rw [Bool.cond_decide]; split; exact bif_t ob
  exfalso; omega
theorem V9_end {l : List I} {out : List Int} : V9_0 (l, out, (l.length : Int), ()) = some (.inr (.inl (out, ()))) := by
  show R9_0 F24 G24 _ _ l out (l.length : Int) = _
  unfold R9_0
  refine (bif_f (decide_eq_false (by omega))).trans ((bif_t ?_).trans ?_)
  · simp only [tt_eq, Bool.and_eq_true, decide_eq_true_eq]; omega
  · rw [sec_full (l := out) rfl]
theorem W9_all {l : List I} (h : WL l) (hk : l.all okI = true) : wh V9_0 (l, [], 0, ()) = some (.inl (l.flatMap byI, ())) := by
  have hk := all_iff.1 hk
  have := wh_steps (f := V9_0) (fun i => (l, (l.take i).flatMap byI, (i : Int), ())) l.length (fun i hi => by
    rw [flatMap_take_succ (d := (0, 0, 0, 0, 0, ())) hi]
    exact V9_ok h.1 hi rfl (h.at hi) (by rw [flatMap_byI_length, List.length_take]; omega) (hk i hi))
  rw [List.take_length] at this
  exact this.trans (wh_stop V9_end)
theorem W9_not {l : List I} (h : WL l) (hk : l.all okI = false) : wh V9_0 (l, [], 0, ()) = some (.inr ([], 30, ())) := by
  rcases first_bad (fun i => okI (l.getD i (0, 0, 0, 0, 0, ()))) l.length with h1 | ⟨j, h1, h2, h3⟩
  · rw [all_iff.2 h1] at hk; cases hk
  · have := wh_steps (f := V9_0) (fun i => (l, (l.take i).flatMap byI, (i : Int), ())) j (fun i hi => by
      rw [flatMap_take_succ (d := (0, 0, 0, 0, 0, ())) (by omega : i < l.length)]
      exact V9_ok h.1 (by omega) rfl (h.at (by omega)) (by rw [flatMap_byI_length, List.length_take]; omega) (h2 i hi))
    exact this.trans (wh_stop (V9_bad h.1 h1 rfl h3))
theorem E9_eq {l : List I} (h : WL l) : E9 (l, ()) = some (encR l) := by
  show S9 F24 G24 W9_0 Q9_0 l = _
  unfold S9 encR
  cases hk : l.all okI
  · have hw := W9_not h hk
    have e1 : W9_0 (l, [], 0, ()) = .inr ([], 30, ()) := whV_of (hd := hd9_0) (ys := ys9_0) hw
    have e2 : Q9_0 (l, [], 0, ()) = true := whK_of (hd := hd9_0) (ys := ys9_0) hw
    rw [e1, e2]
    rfl
  · have hw := W9_all h hk
    have e1 : W9_0 (l, [], 0, ()) = .inl (l.flatMap byI, ()) := whV_of (hd := hd9_0) (ys := ys9_0) hw
    have e2 : Q9_0 (l, [], 0, ()) = true := whK_of (hd := hd9_0) (ys := ys9_0) hw
    rw [e1, e2]
    refine (bif_t rfl).trans ((bif_t ?_).trans ?_)
    · exact Bool.and_eq_true_iff.2 ⟨decide_eq_true (Nat.le_of_eq (Nat.zero_add _)), rfl⟩
    · simp only [getL]
      rw [bytesAt_full rfl]
      rfl
/-! ## Decode -/
def of8 (s : List UInt8) : I :=
  let b := fun i => ((s.getD i 0).toNat : Int)
  (b 0, b 1 % 16, b 1 / 16, IntKind.wrap .i16 (b 2 + 256 * b 3), IntKind.wrap .i32 (b 4 + 256 * b 5 + 65536 * b 6 + 16777216 * b 7), ())
def dec : Nat → List UInt8 → List I
  | 0, _ => []
  | n + 1, s => of8 s :: dec n (s.drop 8)
theorem dec_length : ∀ n s, (dec n s).length = n
  | 0, _ => rfl
  | n + 1, s => by rw [dec, List.length_cons, dec_length]
theorem dec_add (s : List UInt8) : ∀ n, dec (n + 1) s = dec n s ++ [of8 (s.drop (8 * n))] := by
  intro n
  induction n generalizing s with
  | zero => simp [dec]
  | succ n ih =>
    rw [dec, ih (s.drop 8), dec, List.drop_drop]
    rw [show 8 + 8 * n = 8 * (n + 1) by omega]
    rfl
theorem or3 (b4 b5 b6 b7 : Int) (h4 : 0 ≤ b4 ∧ b4 < 256) (h5 : 0 ≤ b5 ∧ b5 < 256) (h6 : 0 ≤ b6 ∧ b6 < 256) (h7 : 0 ≤ b7 ∧ b7 < 256) :
    ior .i32 (ior .i32 (ior .i32 b4 (ishl .i32 b5 8)) (ishl .i32 b6 16)) (ishl .i32 b7 24) = IntKind.wrap .i32 (b4 + 256 * b5 + 65536 * b6 + 16777216 * b7) := by
  rw [ishl_k .i32 b5 8 8 256 rfl rfl, ishl_k .i32 b6 16 16 65536 rfl rfl, ishl_k .i32 b7 24 24 16777216 rfl rfl, ior_wr, ior_wr, ior_wr]
  rw [ior_add .i32 b4 b5 256 8 rfl h4 h5.1 (by show _ < (2:Int)^32; omega), ior_wl, ior_add .i32 (b5 * 256 + b4) b6 65536 16 rfl (by omega) h6.1 (by show _ < (2:Int)^32; omega), ior_wl,
    ior_add .i32 (b6 * 65536 + (b5 * 256 + b4)) b7 16777216 24 rfl (by omega) h7.1 (by show _ < (2:Int)^32; omega)]
  congr 1; omega
theorem or1 (b2 b3 : Int) (h2 : 0 ≤ b2 ∧ b2 < 256) (h3 : 0 ≤ b3 ∧ b3 < 256) : ior .i16 b2 (ishl .i16 b3 8) = IntKind.wrap .i16 (b2 + 256 * b3) := by
  rw [ishl_k .i16 b3 8 8 256 rfl rfl, ior_wr, ior_add .i16 b2 b3 256 8 rfl h2 h3.1 (by show _ < (2:Int)^16; omega)]
  congr 1; omega
theorem by8 (b : UInt8) : 0 ≤ (b.toNat : Int) ∧ (b.toNat : Int) < 256 := ⟨by omega, by have := b.toNat_lt; omega⟩
theorem V10_ok {s : List UInt8} {out : List I} (h8 : 8 ≤ s.length) (hs : s.length ≤ 16777216) (ho : out.length ≤ 16777216) : V10_0 (s, out, ()) = some (.inl (s.drop 8, out ++ [of8 s], ())) := by
  show R10_0 _ _ s out = _
  unfold R10_0
  have hne : (s == ([] : List UInt8)) = false := by cases s with
    | nil => simp at h8
    | cons _ _ => rfl
  rw [hne]
  refine (bif_t rfl).trans ((bif_t ?_).trans ?_)
  · simp only [tt_eq, Bool.and_eq_true, decide_eq_true_eq, true_and, and_true]
    omega
  · rw [sec_full (l := out) rfl, sec_full (by rw [List.length_append]; rfl)]
    have w0 : ∀ b : UInt8, IntKind.wrap .i64 (b.toNat : Int) = b.toNat := fun b => wi64 (by have := by8 b; omega)
    have w1 : ∀ b : UInt8, IntKind.wrap .i16 (b.toNat : Int) = b.toNat := fun b => wi16 (by have := by8 b; omega)
    have w2 : ∀ b : UInt8, IntKind.wrap .i32 (b.toNat : Int) = b.toNat := fun b => wi32 (by have := by8 b; omega)
    rw [w0, w1, w1, w2, w2, w2, w2, or1 _ _ (by8 _) (by8 _), or3 _ _ _ _ (by8 _) (by8 _) (by8 _) (by8 _)]
    rw [iand_low .u8 _ 15 16 4 rfl rfl (by decide), ishr_k .u8 _ 4 4 16 rfl rfl]
    have hb := by8 (s.getD 1 0)
    rw [wi64 (a := ((s.getD 1 0).toNat : Int) % 16) (by omega), wi64 (a := ((s.getD 1 0).toNat : Int) / 16) (by omega), wi64 (a := IntKind.wrap .i16 _) (by rw [wrap_i16]; split <;> omega), wi64 (a := IntKind.wrap .i32 _) (by rw [wrap_i32]; split <;> omega)]
    have : dropTake s 8 (Int.toNat (s.length : Int)) = s.drop 8 := by
      unfold dropTake
      rw [Int.toNat_natCast, List.take_of_length_le (by simp)]
    rw [this]
    rfl
end Go.Proofs
