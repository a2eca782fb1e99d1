import Derived.Test.YtfnjmgjpjjpegaaT
import Derived.Test.YtfnjmgjpjjpegaaGb
import Derived.Test.YtfnjmgjpjjpegaaP
namespace Go.Proofs
open Go.GX
abbrev U64 : Ty := .int .u64
abbrev I64 : Ty := .int .i64
abbrev vI (n : Int) : V := ⟨.int .i64, n⟩
abbrev vU (n : Int) : V := ⟨.int .u64, n⟩
abbrev vB (b : Bool) : V := ⟨.bool, b⟩
noncomputable abbrev CxA (K : Kn) : Cx := ⟨true, Try.Θ, K, 100, fun _ => none⟩
abbrev BE : Ty := .tup .bool (.tup (.int .i64) .tnil)
abbrev UE : Ty := .tup (.int .u64) (.tup (.int .i64) .tnil)
def isv (op n : Int) : Bool := decide (op = n)
theorem cond_some {α : Type} (c : Bool) (x y : α) : (bif c then some x else some y) = some (bif c then x else y) := by cases c <;> rfl
-- alu.Test
def S12w (op a b x y : Int) : Option (Bool × Int × Unit) :=
  bif isv op 16 then some (decide (a = b) == isv op 16, 0, ()) else bif isv op 80 then some (decide (a = b) == isv op 16, 0, ()) else
  bif isv op 32 then some (decide (a > b) == isv op 32, 0, ()) else bif isv op 176 then some (decide (a > b) == isv op 32, 0, ()) else
  bif isv op 48 then some (decide (a ≥ b) == isv op 48, 0, ()) else bif isv op 160 then some (decide (a ≥ b) == isv op 48, 0, ()) else
  bif isv op 64 then some (decide (iand .u64 a b > 0), 0, ()) else
  bif isv op 96 then some (decide (x > y) == isv op 96, 0, ()) else bif isv op 208 then some (decide (x > y) == isv op 96, 0, ()) else
  bif isv op 112 then some (decide (x ≥ y) == isv op 112, 0, ()) else bif isv op 192 then some (decide (x ≥ y) == isv op 112, 0, ()) else some (false, 1, ())
def lo32 (a : Int) : Int := IntKind.wrap .u64 (IntKind.wrap .u32 a)
def S12 (op : Int) (wide : Bool) (a b : Int) : Option (Bool × Int × Unit) :=
  bif wide then S12w op a b (ixor .u64 a 9223372036854775808) (ixor .u64 b 9223372036854775808)
  else S12w op (lo32 a) (lo32 b) (ixor .u64 (lo32 a) 2147483648) (ixor .u64 (lo32 b) 2147483648)
theorem t12t (op a b : Int) : fnT (CxA fun _ => none) Try.f12 BE [vI op, vB true, vU a, vU b] = (S12 op true a b) := by kernel_rfl
theorem t12f (op a b : Int) : fnT (CxA fun _ => none) Try.f12 BE [vI op, vB false, vU a, vU b] = (S12 op false a b) := by kernel_rfl
-- ref.Test
def S13w (op a b x y : Int) : Option (Bool × Int × Unit) :=
  bif isv op 16 then some (decide (a = b), 0, ()) else bif isv op 32 then some (decide (a > b), 0, ()) else bif isv op 48 then some (decide (a ≥ b), 0, ()) else
  bif isv op 64 then some (!decide (iand .u64 a b = 0), 0, ()) else bif isv op 80 then some (!decide (a = b), 0, ()) else
  bif isv op 96 then some (decide (x > y), 0, ()) else bif isv op 112 then some (decide (x ≥ y), 0, ()) else
  bif isv op 160 then some (decide (a < b), 0, ()) else bif isv op 176 then some (decide (a ≤ b), 0, ()) else
  bif isv op 192 then some (decide (x < y), 0, ()) else bif isv op 208 then some (decide (x ≤ y), 0, ()) else some (false, 1, ())
def S13 (op : Int) (wide : Bool) (a b : Int) : Option (Bool × Int × Unit) :=
  bif wide then S13w op a b (IntKind.wrap .i64 a) (IntKind.wrap .i64 b)
  else S13w op (iand .u64 a 4294967295) (iand .u64 b 4294967295) (IntKind.wrap .i64 (IntKind.wrap .i32 (iand .u64 a 4294967295))) (IntKind.wrap .i64 (IntKind.wrap .i32 (iand .u64 b 4294967295)))
noncomputable def KN : Kn := KX Try.Θ Try.F (fun _ => none) 100 10
theorem t13t (op a b : Int) : fnT (CxA KN) Try.f13 BE [vI op, vB true, vU a, vU b] = (S13 op true a b) := by kernel_rfl
theorem t13f (op a b : Int) : fnT (CxA KN) Try.f13 BE [vI op, vB false, vU a, vU b] = (S13 op false a b) := by kernel_rfl
-- awake
def s12 (op : Int) (w : Bool) (a b : Int) : Bool × Int × Unit := (S12 op w a b).getD (false, 0, ())
def s13 (op : Int) (w : Bool) (a b : Int) : Bool × Int × Unit := (S13 op w a b).getD (false, 0, ())
theorem mix : Try.prog.follows .mixedOrders = true := by kernel_rfl
theorem KN_ok : KOK Try.prog KN := KX_ok Try.tabOK Try.FOK KOK.none mix 10
def g11 : List V → Option V := fun args => match args with | [] => some (vB true) | _ => none
def g12 : List V → Option V := fun args => match args with | [⟨.int .i64, op⟩, ⟨.bool, w⟩, ⟨.int .u64, a⟩, ⟨.int .u64, b⟩] => some ⟨BE, s12 op w a b⟩ | _ => none
def g13 : List V → Option V := fun args => match args with | [⟨.int .i64, op⟩, ⟨.bool, w⟩, ⟨.int .u64, a⟩, ⟨.int .u64, b⟩] => some ⟨BE, s13 op w a b⟩ | _ => none
def K4 : Kn := kOf [(11, pS g11), (12, pS g12), (13, pS g13)]
theorem t11 : fnT (CxA KN) Try.f11 .bool [] = some true := by kernel_rfl
theorem t4 (op : Int) (w : Bool) (n : List Int) : fnT (CxA K4) Try.f4 .bool [vI op, vB w, ⟨.arr 2 (.int .u64), n⟩] =
   (bif (s12 op w (n.getD 0 0) (n.getD 1 0)).1 == (s13 op w (n.getD 0 0) (n.getD 1 0)).1 then (bif decide ((s12 op w (n.getD 0 0) (n.getD 1 0)).2.1 = (s13 op w (n.getD 0 0) (n.getD 1 0)).2.1) then some true else some false) else some false) := by kernel_rfl
theorem cs (c : Bool) {α : Type} (x y : α) : (bif c then some x else some y) = some (bif c then x else y) := by cases c <;> rfl
theorem S12w_some (op a b x y : Int) : ∃ r, S12w op a b x y = some r := by unfold S12w; simp only [cs]; exact ⟨_, rfl⟩
theorem S13w_some (op a b x y : Int) : ∃ r, S13w op a b x y = some r := by unfold S13w; simp only [cs]; exact ⟨_, rfl⟩
theorem S12_some (op : Int) (w : Bool) (a b : Int) : S12 op w a b = some (s12 op w a b) := by
  have : ∃ r, S12 op w a b = some r := by cases w <;> exact S12w_some _ _ _ _ _
  obtain ⟨r, h⟩ := this
  rw [s12, h]; rfl
theorem S13_some (op : Int) (w : Bool) (a b : Int) : S13 op w a b = some (s13 op w a b) := by
  have : ∃ r, S13 op w a b = some r := by cases w <;> exact S13w_some _ _ _ _ _
  obtain ⟨r, h⟩ := this
  rw [s13, h]; rfl

theorem lo32_eq (a : Int) : lo32 a = a % 4294967296 := by unfold lo32; rw [wrap_u32, wrap_u64]; omega
theorem dec_congr {p q : Prop} [Decidable p] [Decidable q] (h : p ↔ q) : decide p = decide q := by simp [h]
theorem test_w (op a b x y x' y' : Int) (h1 : x > y ↔ x' > y') (hxy : x = y ↔ x' = y') (h2 : 0 ≤ iand .u64 a b) : S12w op a b x y = S13w op a b x' y' := by
  have ge : (x ≥ y) ↔ (x' ≥ y') := by omega
  unfold S12w S13w
  by_cases c1 : op = 16
  · subst c1; simp [isv] <;> first | omega | (rw [← decide_not]; exact dec_congr (by omega)) | exact dec_congr (by omega)
  by_cases c2 : op = 80
  · subst c2; simp [isv] <;> first | omega | (rw [← decide_not]; exact dec_congr (by omega)) | exact dec_congr (by omega)
  by_cases c3 : op = 32
  · subst c3; simp [isv] <;> first | omega | (rw [← decide_not]; exact dec_congr (by omega)) | exact dec_congr (by omega)
  by_cases c4 : op = 176
  · subst c4; simp [isv] <;> first | omega | (rw [← decide_not]; exact dec_congr (by omega)) | exact dec_congr (by omega)
  by_cases c5 : op = 48
  · subst c5; simp [isv] <;> first | omega | (rw [← decide_not]; exact dec_congr (by omega)) | exact dec_congr (by omega)
  by_cases c6 : op = 160
  · subst c6; simp [isv] <;> first | omega | (rw [← decide_not]; exact dec_congr (by omega)) | exact dec_congr (by omega)
  by_cases c7 : op = 64
  · subst c7; simp [isv] <;> first | omega | (rw [← decide_not]; exact dec_congr (by omega)) | exact dec_congr (by omega)
  by_cases c8 : op = 96
  · subst c8; simp [isv] <;> first | omega | (rw [← decide_not]; exact dec_congr (by omega)) | exact dec_congr (by omega)
  by_cases c9 : op = 208
  · subst c9; simp [isv] <;> first | omega | (rw [← decide_not]; exact dec_congr (by omega)) | exact dec_congr (by omega)
  by_cases c10 : op = 112
  · subst c10; simp [isv] <;> first | omega | (rw [← decide_not]; exact dec_congr (by omega)) | exact dec_congr (by omega)
  by_cases c11 : op = 192
  · subst c11; simp [isv] <;> first | omega | (rw [← decide_not]; exact dec_congr (by omega)) | exact dec_congr (by omega)
  simp [isv, *]
theorem iand_nonneg (a b : Int) : 0 ≤ iand .u64 a b := by rw [iand_u64]; omega
theorem test_eq (op : Int) (w : Bool) (a b : Int) (ha : 0 ≤ a ∧ a < 18446744073709551616) (hb : 0 ≤ b ∧ b < 18446744073709551616) : s12 op w a b = s13 op w a b := by
  have : S12 op w a b = S13 op w a b := by
    cases w
    · simp only [S12, S13, cond_false]
      rw [and_lo, and_lo, lo32_eq, lo32_eq]
      have ra : 0 ≤ a % 4294967296 ∧ a % 4294967296 < 4294967296 := by omega
      have rb : 0 ≤ b % 4294967296 ∧ b % 4294967296 < 4294967296 := by omega
      refine test_w _ _ _ _ _ _ _ ?_ ?_ (iand_nonneg _ _) <;> rw [top32 ra, top32 rb, wrap_i32, wrap_i32, wrap_i64, wrap_i64] <;> split <;> split <;> split <;> split <;> split <;> split <;> omega
    · simp only [S12, S13, cond_true]
      refine test_w _ _ _ _ _ _ _ ?_ ?_ (iand_nonneg _ _) <;> rw [top64 ha, top64 hb, wrap_i64, wrap_i64] <;> split <;> split <;> split <;> split <;> omega
  rw [s12, s13, this]

theorem t12 (op : Int) (w : Bool) (a b : Int) : fnT (CxA fun _ => none) Try.f12 BE [vI op, vB w, vU a, vU b] = some (s12 op w a b) := by
  rw [← S12_some]
  cases w
  · exact t12f op a b
  · exact t12t op a b
theorem t13 (op : Int) (w : Bool) (a b : Int) : fnT (CxA KN) Try.f13 BE [vI op, vB w, vU a, vU b] = some (s13 op w a b) := by
  rw [← S13_some]
  cases w
  · exact t13f op a b
  · exact t13t op a b
theorem p11 : ∀ args v, g11 args = some v → PureOK Try.prog 11 args v := by
  intro args v h
  unfold g11 at h
  split at h <;> cases h
  exact fnT_pure Try.tabOK KN_ok mix Try.func11 t11
theorem p12 : ∀ args v, g12 args = some v → PureOK Try.prog 12 args v := by
  intro args v h
  unfold g12 at h
  split at h <;> cases h
  exact fnT_pure Try.tabOK KOK.none mix Try.func12 (t12 _ _ _ _)
theorem p13 : ∀ args v, g13 args = some v → PureOK Try.prog 13 args v := by
  intro args v h
  unfold g13 at h
  split at h <;> cases h
  exact fnT_pure Try.tabOK KN_ok mix Try.func13 (t13 _ _ _ _)
theorem K4_ok : KOK Try.prog K4 := KOK.cons Try.call11 (.pS p11) (KOK.cons Try.call12 (.pS p12) (KOK.cons Try.call13 (.pS p13) KOK.nil))
theorem wf_arr {n : Nat} {l : List Int} (h : WF (.arr n (.int .u64)) l) (i : Nat) : 0 ≤ l.getD i 0 ∧ l.getD i 0 < 18446744073709551616 := by
  by_cases hi : i < l.length
  · have : l.getD i 0 ∈ l := by simp [List.getD, List.getElem?_eq_getElem hi]
    exact wf_u64 (h.2 _ this)
  · simp [List.getD, List.getElem?_eq_none (Nat.le_of_not_lt hi)]
theorem aluTests_pure (op : Int) (_ : WF (.int .i64) op) (w : Bool) (_ : WF .bool w) (n : List Int) (hn : WF (.arr 2 (.int .u64)) n) : PureOK Try.prog 4 [vI op, vB w, ⟨.arr 2 (.int .u64), n⟩] ⟨.bool, true⟩ := by
  refine fnT_pure Try.tabOK K4_ok mix Try.func4 (lf := 100) ?_
  refine (t4 op w n).trans ?_
  rw [test_eq op w _ _ (wf_arr hn 0) (wf_arr hn 1)]
  simp
end Go.Proofs
