import Derived.Test.YtkhnkgdmcfpcjaaI
import Derived.Test.YtkhnkgdmcfpcjaaGc
namespace Go.Proofs
open Go.GX
set_option linter.unusedVariables false
set_option linter.unusedSimpArgs false
abbrev I := Int × Int × Int × Int × Int × Unit
def i64 (a : Int) : Prop := -9223372036854775808 ≤ a ∧ a < 9223372036854775808
def WI (a : I) : Prop := i64 a.1 ∧ i64 a.2.1 ∧ i64 a.2.2.1 ∧ i64 a.2.2.2.1 ∧ i64 a.2.2.2.2.1
def ok1 (op dst src off imm : Int) : Bool := decide (0 ≤ op ∧ op < 256 ∧ 0 ≤ dst ∧ dst < 16 ∧ 0 ≤ src ∧ src < 16 ∧ -32768 ≤ off ∧ off < 32768 ∧ -2147483648 ≤ imm ∧ imm < 2147483648)
def okI (a : I) : Bool := ok1 a.1 a.2.1 a.2.2.1 a.2.2.2.1 a.2.2.2.2.1
def by1 (op dst src off imm : Int) : List Int := [op, src * 16 + dst, off % 256, off / 256 % 256, imm % 256, imm / 256 % 256, imm / 65536 % 256, imm / 16777216 % 256]
def byI (a : I) : List Int := by1 a.1 a.2.1 a.2.2.1 a.2.2.2.1 a.2.2.2.2.1
theorem byI_length (a : I) : (byI a).length = 8 := rfl
theorem E23_eq (a : I) (h : WI a) : ∃ l, E23 (a, ()) = some (l, okI a, ()) ∧ (okI a = true → l = byI a) := by
  obtain ⟨op, dst, src, off, imm, _⟩ := a
  obtain ⟨h1, h2, h3, h4, h5⟩ := h
  dsimp only at h1 h2 h3 h4 h5
  show ∃ l, S23 (op, dst, src, off, imm, ()) = some (l, ok1 op dst src off imm, ()) ∧ (ok1 op dst src off imm = true → l = by1 op dst src off imm)
  unfold i64 at *
  have e8 : ∀ a, ishr .i64 a 8 = a / 256 := fun a => ishr_k .i64 a 8 8 256 rfl rfl
  have e4 : ∀ a, ishr .i64 a 4 = a / 16 := fun a => ishr_k .i64 a 4 4 16 rfl rfl
  have e16 : ∀ a, ishr .i64 a 16 = a / 65536 := fun a => ishr_k .i64 a 16 16 65536 rfl rfl
  have e24 : ∀ a, ishr .i64 a 24 = a / 16777216 := fun a => ishr_k .i64 a 24 24 16777216 rfl rfl
  have ei : ∀ a, IntKind.wrap .i64 (IntKind.wrap .i16 a) = IntKind.wrap .i16 a := fun a => wi64 (by rw [wrap_i16]; split <;> omega)
  have ej : ∀ a, IntKind.wrap .i64 (IntKind.wrap .i32 a) = IntKind.wrap .i32 a := fun a => wi64 (by rw [wrap_i32]; split <;> omega)
  unfold S23
  have k16 : (IntKind.wrap .i16 off = off) = (-32768 ≤ off ∧ off < 32768) := propext (by rw [wrap_i16]; split <;> omega)
  have k32 : (IntKind.wrap .i32 imm = imm) = (-2147483648 ≤ imm ∧ imm < 2147483648) := propext (by rw [wrap_i32]; split <;> omega)
  have kop : (op / 256 = 0) = (0 ≤ op ∧ op < 256) := propext (by omega)
  have kdst : (dst / 16 = 0) = (0 ≤ dst ∧ dst < 16) := propext (by omega)
  have ksrc : (src / 16 = 0) = (0 ≤ src ∧ src < 16) := propext (by omega)
  simp only [e8, e4, e16, e24, ei, ej, Bool.cond_decide, k16, k32, kop, kdst, ksrc]
  refine ⟨[IntKind.wrap .u8 op, IntKind.wrap .u8 (ior .i64 (ishl .i64 src 4) dst), IntKind.wrap .u8 off, IntKind.wrap .u8 (off / 256), IntKind.wrap .u8 imm, IntKind.wrap .u8 (imm / 256), IntKind.wrap .u8 (imm / 65536), IntKind.wrap .u8 (imm / 16777216)], ?_, ?_⟩
  · unfold ok1
    split
    · split
      · split
        · split
          · congr 3
            rw [decide_eq_decide]
            omega
          · congr 3; symm; rw [decide_eq_false_iff_not]; omega
        · congr 3; symm; rw [decide_eq_false_iff_not]; omega
      · congr 3; symm; rw [decide_eq_false_iff_not]; omega
    · congr 3; symm; rw [decide_eq_false_iff_not]; omega
  · intro hk
    have hk : 0 ≤ op ∧ op < 256 ∧ 0 ≤ dst ∧ dst < 16 ∧ 0 ≤ src ∧ src < 16 ∧ -32768 ≤ off ∧ off < 32768 ∧ -2147483648 ≤ imm ∧ imm < 2147483648 := of_decide_eq_true hk
    have e1 : ishl .i64 src 4 = src * 16 := by rw [ishl_k .i64 src 4 4 16 rfl rfl, wi64 (by omega)]
    have e2 : ior .i64 (src * 16) dst = src * 16 + dst := by rw [ior_comm, ior_add .i64 dst src 16 4 rfl (by omega) (by omega) (by show _ < (2:Int)^64; omega), wi64 (by omega)]
    rw [e1, e2]
    unfold by1
    simp only [wrap_u8, List.cons.injEq, and_true, true_and]
    exact ⟨by omega, by omega⟩
theorem F23_eq (a : I) (h : WI a) : ∃ l, F23 (a, ()) = (l, okI a, ()) ∧ G23 (a, ()) = true ∧ (okI a = true → l = byI a) := by
  obtain ⟨l, h1, h2⟩ := E23_eq a h
  exact ⟨l, by show (E23 _).getD _ = _; rw [h1]; rfl, by show (E23 _).isSome = _; rw [h1]; rfl, h2⟩
theorem V8_ok {l : List I} {i : Nat} {out : List Int} {a : I} (hl : l.length ≤ 16777216) (hi : i < l.length) (ha : l.getD i (0, 0, 0, 0, 0, ()) = a) (hw : WI a) (ho : out.length = 8 * i) (hk : okI a = true) :
    V8_0 (out, l, (l.length : Int), (i : Int), ()) = some (.inl (out ++ byI a, l, (l.length : Int), ((i + 1 : Nat) : Int), ())) := by
  obtain ⟨b, h1, h2, h3⟩ := F23_eq _ hw
  have h3 := h3 hk
  rw [hk, h3] at h1
  show R8_0 F23 G23 _ _ out l (l.length : Int) (i : Int) = _
  unfold R8_0
  rw [show Int.toNat (i : Int) = i from rfl, ha, h1, h2]
  refine (bif_t (decide_eq_true (by omega))).trans ((bif_f rfl).trans ((bif_t ?_).trans ?_))
  · simp only [tt_eq, Bool.and_eq_true, decide_eq_true_eq, true_and]
    omega
  · dsimp only
    rw [wi64 (by omega), sec_full (l := out) rfl, sec_full (l := byI a) (n := 8) rfl, sec_full (by rw [List.length_append]; rfl)]
    rfl
theorem V8_bad {l : List I} {i : Nat} {out : List Int} {a : I} (hl : l.length ≤ 16777216) (hi : i < l.length) (ha : l.getD i (0, 0, 0, 0, 0, ()) = a) (hw : WI a) (hk : okI a = false) :
    V8_0 (out, l, (l.length : Int), (i : Int), ()) = some (.inr (.inr ([], 30, ()))) := by
  obtain ⟨b, h1, h2, h3⟩ := F23_eq _ hw
  rw [hk] at h1
  show R8_0 F23 G23 _ _ out l (l.length : Int) (i : Int) = _
  unfold R8_0
  rw [show Int.toNat (i : Int) = i from rfl, ha, h1, h2]
  refine (bif_t (decide_eq_true (by omega))).trans ((bif_t rfl).trans (bif_t ?_))
  simp only [tt_eq, Bool.and_eq_true, decide_eq_true_eq, true_and]
  omega
theorem V8_end {l : List I} {out : List Int} : V8_0 (out, l, (l.length : Int), (l.length : Int), ()) = some (.inr (.inl (out, ()))) := by
  show R8_0 F23 G23 _ _ out l (l.length : Int) (l.length : Int) = _
  unfold R8_0
  refine (bif_f (decide_eq_false (by omega))).trans ((bif_t ?_).trans ?_)
  · simp only [tt_eq, Bool.and_eq_true, decide_eq_true_eq]; omega
  · rw [sec_full (l := out) rfl]
/-- lists of slots -/
def WL (l : List I) : Prop := l.length ≤ 16777216 ∧ ∀ a ∈ l, WI a
theorem WL.at {l : List I} (h : WL l) {i : Nat} (hi : i < l.length) : WI (l.getD i (0, 0, 0, 0, 0, ())) := by
  rw [getD_lt hi]; exact h.2 _ (List.getElem_mem hi)
theorem flatMap_byI_length (l : List I) : (l.flatMap byI).length = 8 * l.length := by
  induction l with
  | nil => rfl
  | cons a l ih => rw [List.flatMap_cons, List.length_append, ih, byI_length, List.length_cons]; omega
def encR (l : List I) : List UInt8 × Int × Unit := if l.all okI then (bytesOf (l.flatMap byI), 0, ()) else ([], 30, ())
theorem all_iff {l : List I} : l.all okI = true ↔ ∀ i, i < l.length → okI (l.getD i (0, 0, 0, 0, 0, ())) = true := by
  rw [List.all_eq_true]
  constructor
  · intro h i hi; rw [getD_lt hi]; exact h _ (List.getElem_mem hi)
  · intro h a ha
    obtain ⟨i, hi, rfl⟩ := List.getElem_of_mem ha
    have := h i hi
    rwa [getD_lt hi] at this
theorem W8_all {l : List I} (h : WL l) (hk : l.all okI = true) : wh V8_0 ([], l, (l.length : Int), 0, ()) = some (.inl (l.flatMap byI, ())) := by
  have hk := all_iff.1 hk
  have := wh_steps (f := V8_0) (fun i => ((l.take i).flatMap byI, l, (l.length : Int), (i : Int), ())) l.length (fun i hi => by
    rw [flatMap_take_succ (d := (0, 0, 0, 0, 0, ())) hi]
    exact V8_ok h.1 hi rfl (h.at hi) (by rw [flatMap_byI_length, List.length_take]; omega) (hk i hi))
  rw [List.take_length] at this
  exact this.trans (wh_stop V8_end)
theorem W8_not {l : List I} (h : WL l) (hk : l.all okI = false) : wh V8_0 ([], l, (l.length : Int), 0, ()) = some (.inr ([], 30, ())) := by
  rcases first_bad (fun i => okI (l.getD i (0, 0, 0, 0, 0, ()))) l.length with h1 | ⟨j, h1, h2, h3⟩
  · rw [all_iff.2 h1] at hk; cases hk
  · have := wh_steps (f := V8_0) (fun i => ((l.take i).flatMap byI, l, (l.length : Int), (i : Int), ())) j (fun i hi => by
      rw [flatMap_take_succ (d := (0, 0, 0, 0, 0, ())) (by omega : i < l.length)]
      exact V8_ok h.1 (by omega) rfl (h.at (by omega)) (by rw [flatMap_byI_length, List.length_take]; omega) (h2 i hi))
    exact this.trans (wh_stop (V8_bad h.1 h1 rfl (h.at h1) h3))
theorem E8_eq {l : List I} (h : WL l) : E8 (l, ()) = some (encR l) := by
  have hl := h.1
  show S8 F23 G23 W8_0 Q8_0 l = _
  unfold S8 encR
  cases hk : l.all okI
  · have hw := W8_not h hk
    have e1 : W8_0 ([], l, (l.length : Int), 0, ()) = .inr ([], 30, ()) := whV_of (hd := hd8_0) (ys := ys8_0) hw
    have e2 : Q8_0 ([], l, (l.length : Int), 0, ()) = true := whK_of (hd := hd8_0) (ys := ys8_0) hw
    rw [e1, e2]
    refine (bif_f rfl).trans ((bif_t ?_).trans rfl)
    simp only [tt_eq, Bool.and_eq_true, decide_eq_true_eq, true_and, wi64 (show -9223372036854775808 ≤ 8 * (l.length : Int) ∧ 8 * (l.length : Int) < 9223372036854775808 by omega)]
    omega
  · have hw := W8_all h hk
    have e1 : W8_0 ([], l, (l.length : Int), 0, ()) = .inl (l.flatMap byI, ()) := whV_of (hd := hd8_0) (ys := ys8_0) hw
    have e2 : Q8_0 ([], l, (l.length : Int), 0, ()) = true := whK_of (hd := hd8_0) (ys := ys8_0) hw
    rw [e1, e2]
    refine (bif_t rfl).trans ((bif_t ?_).trans ?_)
    · refine Bool.and_eq_true_iff.2 ⟨decide_eq_true (Nat.le_of_eq (Nat.zero_add _)), ?_⟩
      simp only [tt_eq, Bool.and_eq_true, decide_eq_true_eq, true_and, wi64 (show -9223372036854775808 ≤ 8 * (l.length : Int) ∧ 8 * (l.length : Int) < 9223372036854775808 by omega)]
      omega
    · simp only [getL]
      rw [bytesAt_full rfl]
      rfl
end Go.Proofs
