import Derived.Test.YtlakcjlgjmeefaaGreatA
namespace Go.Proofs
open Go.GX
set_option linter.unusedVariables false
set_option maxRecDepth 100000
abbrev TIn : Ty := (.pair (.int .i64) (.pair (.int .i64) (.pair (.int .i64) (.pair (.int .i64) (.pair (.int .i64) .unit)))))
abbrev TCk : Ty := .tup (.int .i64) (.tup (.int .i64) .tnil)
def xI : TIn.den := (149, (0, (0, (0, (0, ())))))
def prN (op r : Int) : List TIn.den := [(op, (r, (0, (1, (0, ()))))), xI, xI]
def okP (l : List TIn.den) : Bool := decide (l = [xI]) || (List.range 10).any (fun r => decide (l = prN 21 (r : Int)) || decide (l = prN 85 (r : Int)))
theorem okP_eq {l : List TIn.den} (h : okP l = true) : l = [xI] ∨ ∃ r : Nat, r < 10 ∧ (l = prN 21 (r : Int) ∨ l = prN 85 (r : Int)) := by
  unfold okP at h
  rw [Bool.or_eq_true, decide_eq_true_eq, List.any_eq_true] at h
  rcases h with h | ⟨r, hr, h⟩
  · exact .inl h
  · rw [Bool.or_eq_true, decide_eq_true_eq, decide_eq_true_eq] at h
    exact .inr ⟨r, List.mem_range.mp hr, h⟩
theorem okP_N {r : Nat} (hr : r < 10) : okP (prN 21 (r : Int)) = true ∧ okP (prN 85 (r : Int)) = true := by
  unfold okP
  refine ⟨?_, ?_⟩ <;> rw [Bool.or_eq_true, List.any_eq_true] <;> exact .inr ⟨r, List.mem_range.mpr hr, by simp⟩
noncomputable def F16 : AD [.vsl TIn] → TCk.den := fun _ => (0, 0, ())
noncomputable def G16 : AD [.vsl TIn] → Bool := fun x => okP x.1
noncomputable def F34 : AD [.vsl TIn] → Ty.den (.vsl .bool) := fun x => x.1.map (fun _ => true)
noncomputable def G34 : AD [.vsl TIn] → Bool := fun x => okP x.1
theorem t16_x : fnT CA Tryz.f16 TCk [⟨.vsl TIn, [xI]⟩] = some (0, 0, ()) := by kernel_rfl
theorem t34_x : fnT CA Tryz.f34 (.vsl .bool) [⟨.vsl TIn, [xI]⟩] = some [true] := by kernel_rfl
theorem t16_21_0 : fnT CA Tryz.f16 TCk [⟨.vsl TIn, prN 21 0⟩] = some (0, 0, ()) := by kernel_rfl
theorem t34_21_0 : fnT CA Tryz.f34 (.vsl .bool) [⟨.vsl TIn, prN 21 0⟩] = some [true, true, true] := by kernel_rfl
theorem t16_21_1 : fnT CA Tryz.f16 TCk [⟨.vsl TIn, prN 21 1⟩] = some (0, 0, ()) := by kernel_rfl
theorem t34_21_1 : fnT CA Tryz.f34 (.vsl .bool) [⟨.vsl TIn, prN 21 1⟩] = some [true, true, true] := by kernel_rfl
theorem t16_21_2 : fnT CA Tryz.f16 TCk [⟨.vsl TIn, prN 21 2⟩] = some (0, 0, ()) := by kernel_rfl
theorem t34_21_2 : fnT CA Tryz.f34 (.vsl .bool) [⟨.vsl TIn, prN 21 2⟩] = some [true, true, true] := by kernel_rfl
theorem t16_21_3 : fnT CA Tryz.f16 TCk [⟨.vsl TIn, prN 21 3⟩] = some (0, 0, ()) := by kernel_rfl
theorem t34_21_3 : fnT CA Tryz.f34 (.vsl .bool) [⟨.vsl TIn, prN 21 3⟩] = some [true, true, true] := by kernel_rfl
theorem t16_21_4 : fnT CA Tryz.f16 TCk [⟨.vsl TIn, prN 21 4⟩] = some (0, 0, ()) := by kernel_rfl
theorem t34_21_4 : fnT CA Tryz.f34 (.vsl .bool) [⟨.vsl TIn, prN 21 4⟩] = some [true, true, true] := by kernel_rfl
theorem t16_21_5 : fnT CA Tryz.f16 TCk [⟨.vsl TIn, prN 21 5⟩] = some (0, 0, ()) := by kernel_rfl
theorem t34_21_5 : fnT CA Tryz.f34 (.vsl .bool) [⟨.vsl TIn, prN 21 5⟩] = some [true, true, true] := by kernel_rfl
theorem t16_21_6 : fnT CA Tryz.f16 TCk [⟨.vsl TIn, prN 21 6⟩] = some (0, 0, ()) := by kernel_rfl
theorem t34_21_6 : fnT CA Tryz.f34 (.vsl .bool) [⟨.vsl TIn, prN 21 6⟩] = some [true, true, true] := by kernel_rfl
theorem t16_21_7 : fnT CA Tryz.f16 TCk [⟨.vsl TIn, prN 21 7⟩] = some (0, 0, ()) := by kernel_rfl
theorem t34_21_7 : fnT CA Tryz.f34 (.vsl .bool) [⟨.vsl TIn, prN 21 7⟩] = some [true, true, true] := by kernel_rfl
theorem t16_21_8 : fnT CA Tryz.f16 TCk [⟨.vsl TIn, prN 21 8⟩] = some (0, 0, ()) := by kernel_rfl
theorem t34_21_8 : fnT CA Tryz.f34 (.vsl .bool) [⟨.vsl TIn, prN 21 8⟩] = some [true, true, true] := by kernel_rfl
theorem t16_21_9 : fnT CA Tryz.f16 TCk [⟨.vsl TIn, prN 21 9⟩] = some (0, 0, ()) := by kernel_rfl
theorem t34_21_9 : fnT CA Tryz.f34 (.vsl .bool) [⟨.vsl TIn, prN 21 9⟩] = some [true, true, true] := by kernel_rfl
theorem t16_85_0 : fnT CA Tryz.f16 TCk [⟨.vsl TIn, prN 85 0⟩] = some (0, 0, ()) := by kernel_rfl
theorem t34_85_0 : fnT CA Tryz.f34 (.vsl .bool) [⟨.vsl TIn, prN 85 0⟩] = some [true, true, true] := by kernel_rfl
theorem t16_85_1 : fnT CA Tryz.f16 TCk [⟨.vsl TIn, prN 85 1⟩] = some (0, 0, ()) := by kernel_rfl
theorem t34_85_1 : fnT CA Tryz.f34 (.vsl .bool) [⟨.vsl TIn, prN 85 1⟩] = some [true, true, true] := by kernel_rfl
theorem t16_85_2 : fnT CA Tryz.f16 TCk [⟨.vsl TIn, prN 85 2⟩] = some (0, 0, ()) := by kernel_rfl
theorem t34_85_2 : fnT CA Tryz.f34 (.vsl .bool) [⟨.vsl TIn, prN 85 2⟩] = some [true, true, true] := by kernel_rfl
theorem t16_85_3 : fnT CA Tryz.f16 TCk [⟨.vsl TIn, prN 85 3⟩] = some (0, 0, ()) := by kernel_rfl
theorem t34_85_3 : fnT CA Tryz.f34 (.vsl .bool) [⟨.vsl TIn, prN 85 3⟩] = some [true, true, true] := by kernel_rfl
theorem t16_85_4 : fnT CA Tryz.f16 TCk [⟨.vsl TIn, prN 85 4⟩] = some (0, 0, ()) := by kernel_rfl
theorem t34_85_4 : fnT CA Tryz.f34 (.vsl .bool) [⟨.vsl TIn, prN 85 4⟩] = some [true, true, true] := by kernel_rfl
theorem t16_85_5 : fnT CA Tryz.f16 TCk [⟨.vsl TIn, prN 85 5⟩] = some (0, 0, ()) := by kernel_rfl
theorem t34_85_5 : fnT CA Tryz.f34 (.vsl .bool) [⟨.vsl TIn, prN 85 5⟩] = some [true, true, true] := by kernel_rfl
theorem t16_85_6 : fnT CA Tryz.f16 TCk [⟨.vsl TIn, prN 85 6⟩] = some (0, 0, ()) := by kernel_rfl
theorem t34_85_6 : fnT CA Tryz.f34 (.vsl .bool) [⟨.vsl TIn, prN 85 6⟩] = some [true, true, true] := by kernel_rfl
theorem t16_85_7 : fnT CA Tryz.f16 TCk [⟨.vsl TIn, prN 85 7⟩] = some (0, 0, ()) := by kernel_rfl
theorem t34_85_7 : fnT CA Tryz.f34 (.vsl .bool) [⟨.vsl TIn, prN 85 7⟩] = some [true, true, true] := by kernel_rfl
theorem t16_85_8 : fnT CA Tryz.f16 TCk [⟨.vsl TIn, prN 85 8⟩] = some (0, 0, ()) := by kernel_rfl
theorem t34_85_8 : fnT CA Tryz.f34 (.vsl .bool) [⟨.vsl TIn, prN 85 8⟩] = some [true, true, true] := by kernel_rfl
theorem t16_85_9 : fnT CA Tryz.f16 TCk [⟨.vsl TIn, prN 85 9⟩] = some (0, 0, ()) := by kernel_rfl
theorem t34_85_9 : fnT CA Tryz.f34 (.vsl .bool) [⟨.vsl TIn, prN 85 9⟩] = some [true, true, true] := by kernel_rfl
theorem p16 : ∀ x, G16 x = true → PureOK Tryz.prog 16 (mkA [.vsl TIn] x) ⟨TCk, F16 x⟩ := by
  rintro ⟨l, u⟩ h
  rcases okP_eq h with rfl | ⟨r, hr, h⟩
  · exact fnT_ok CAOK Tryz.func16 (fun c _ => LOK.none rfl 0 c) t16_x
  · have hr : r = 0 ∨ r = 1 ∨ r = 2 ∨ r = 3 ∨ r = 4 ∨ r = 5 ∨ r = 6 ∨ r = 7 ∨ r = 8 ∨ r = 9 := by omega
    rcases h with rfl | rfl
    · rcases hr with rfl | rfl | rfl | rfl | rfl | rfl | rfl | rfl | rfl | rfl
      · exact fnT_ok CAOK Tryz.func16 (fun c _ => LOK.none rfl 0 c) t16_21_0
      · exact fnT_ok CAOK Tryz.func16 (fun c _ => LOK.none rfl 0 c) t16_21_1
      · exact fnT_ok CAOK Tryz.func16 (fun c _ => LOK.none rfl 0 c) t16_21_2
      · exact fnT_ok CAOK Tryz.func16 (fun c _ => LOK.none rfl 0 c) t16_21_3
      · exact fnT_ok CAOK Tryz.func16 (fun c _ => LOK.none rfl 0 c) t16_21_4
      · exact fnT_ok CAOK Tryz.func16 (fun c _ => LOK.none rfl 0 c) t16_21_5
      · exact fnT_ok CAOK Tryz.func16 (fun c _ => LOK.none rfl 0 c) t16_21_6
      · exact fnT_ok CAOK Tryz.func16 (fun c _ => LOK.none rfl 0 c) t16_21_7
      · exact fnT_ok CAOK Tryz.func16 (fun c _ => LOK.none rfl 0 c) t16_21_8
      · exact fnT_ok CAOK Tryz.func16 (fun c _ => LOK.none rfl 0 c) t16_21_9
    · rcases hr with rfl | rfl | rfl | rfl | rfl | rfl | rfl | rfl | rfl | rfl
      · exact fnT_ok CAOK Tryz.func16 (fun c _ => LOK.none rfl 0 c) t16_85_0
      · exact fnT_ok CAOK Tryz.func16 (fun c _ => LOK.none rfl 0 c) t16_85_1
      · exact fnT_ok CAOK Tryz.func16 (fun c _ => LOK.none rfl 0 c) t16_85_2
      · exact fnT_ok CAOK Tryz.func16 (fun c _ => LOK.none rfl 0 c) t16_85_3
      · exact fnT_ok CAOK Tryz.func16 (fun c _ => LOK.none rfl 0 c) t16_85_4
      · exact fnT_ok CAOK Tryz.func16 (fun c _ => LOK.none rfl 0 c) t16_85_5
      · exact fnT_ok CAOK Tryz.func16 (fun c _ => LOK.none rfl 0 c) t16_85_6
      · exact fnT_ok CAOK Tryz.func16 (fun c _ => LOK.none rfl 0 c) t16_85_7
      · exact fnT_ok CAOK Tryz.func16 (fun c _ => LOK.none rfl 0 c) t16_85_8
      · exact fnT_ok CAOK Tryz.func16 (fun c _ => LOK.none rfl 0 c) t16_85_9
theorem p34 : ∀ x, G34 x = true → PureOK Tryz.prog 34 (mkA [.vsl TIn] x) ⟨(.vsl .bool), F34 x⟩ := by
  rintro ⟨l, u⟩ h
  rcases okP_eq h with rfl | ⟨r, hr, h⟩
  · exact fnT_ok CAOK Tryz.func34 (fun c _ => LOK.none rfl 0 c) t34_x
  · have hr : r = 0 ∨ r = 1 ∨ r = 2 ∨ r = 3 ∨ r = 4 ∨ r = 5 ∨ r = 6 ∨ r = 7 ∨ r = 8 ∨ r = 9 := by omega
    rcases h with rfl | rfl
    · rcases hr with rfl | rfl | rfl | rfl | rfl | rfl | rfl | rfl | rfl | rfl
      · exact fnT_ok CAOK Tryz.func34 (fun c _ => LOK.none rfl 0 c) t34_21_0
      · exact fnT_ok CAOK Tryz.func34 (fun c _ => LOK.none rfl 0 c) t34_21_1
      · exact fnT_ok CAOK Tryz.func34 (fun c _ => LOK.none rfl 0 c) t34_21_2
      · exact fnT_ok CAOK Tryz.func34 (fun c _ => LOK.none rfl 0 c) t34_21_3
      · exact fnT_ok CAOK Tryz.func34 (fun c _ => LOK.none rfl 0 c) t34_21_4
      · exact fnT_ok CAOK Tryz.func34 (fun c _ => LOK.none rfl 0 c) t34_21_5
      · exact fnT_ok CAOK Tryz.func34 (fun c _ => LOK.none rfl 0 c) t34_21_6
      · exact fnT_ok CAOK Tryz.func34 (fun c _ => LOK.none rfl 0 c) t34_21_7
      · exact fnT_ok CAOK Tryz.func34 (fun c _ => LOK.none rfl 0 c) t34_21_8
      · exact fnT_ok CAOK Tryz.func34 (fun c _ => LOK.none rfl 0 c) t34_21_9
    · rcases hr with rfl | rfl | rfl | rfl | rfl | rfl | rfl | rfl | rfl | rfl
      · exact fnT_ok CAOK Tryz.func34 (fun c _ => LOK.none rfl 0 c) t34_85_0
      · exact fnT_ok CAOK Tryz.func34 (fun c _ => LOK.none rfl 0 c) t34_85_1
      · exact fnT_ok CAOK Tryz.func34 (fun c _ => LOK.none rfl 0 c) t34_85_2
      · exact fnT_ok CAOK Tryz.func34 (fun c _ => LOK.none rfl 0 c) t34_85_3
      · exact fnT_ok CAOK Tryz.func34 (fun c _ => LOK.none rfl 0 c) t34_85_4
      · exact fnT_ok CAOK Tryz.func34 (fun c _ => LOK.none rfl 0 c) t34_85_5
      · exact fnT_ok CAOK Tryz.func34 (fun c _ => LOK.none rfl 0 c) t34_85_6
      · exact fnT_ok CAOK Tryz.func34 (fun c _ => LOK.none rfl 0 c) t34_85_7
      · exact fnT_ok CAOK Tryz.func34 (fun c _ => LOK.none rfl 0 c) t34_85_8
      · exact fnT_ok CAOK Tryz.func34 (fun c _ => LOK.none rfl 0 c) t34_85_9
end Go.Proofs
