import Derived.Test.YtlakcjlgjmeefaaGreatAS
namespace Go.Proofs
open Go.GX
set_option linter.unusedVariables false
set_option maxRecDepth 100000
abbrev TSc : Ty := (.pair (.pair (.int .u64) (.pair (.int .u64) .unit)) (.pair (.int .u64) (.pair (.int .u64) .unit)))
abbrev TRf : Ty := .tup TSc (.tup TSc (.tup .bool .tnil))
def cnA (n : Int) : TSc.den := ((n, (0, ())), (n, (n, ())))
theorem t145_16_0 : fnT CA Tryz.f145 TRf [⟨.int .i64, 16⟩, ⟨.bool, true⟩, ⟨TSc, cnA 0⟩, ⟨TSc, cnA 0⟩] = some (cnA 0, cnA 0, true, ()) := by kernel_rfl
theorem t145_80_0 : fnT CA Tryz.f145 TRf [⟨.int .i64, 80⟩, ⟨.bool, true⟩, ⟨TSc, cnA 0⟩, ⟨TSc, cnA 0⟩] = some (cnA 0, cnA 0, false, ()) := by kernel_rfl
theorem t145_16_1 : fnT CA Tryz.f145 TRf [⟨.int .i64, 16⟩, ⟨.bool, true⟩, ⟨TSc, cnA 1⟩, ⟨TSc, cnA 0⟩] = some (cnA 0, cnA 0, false, ()) := by kernel_rfl
theorem t145_80_1 : fnT CA Tryz.f145 TRf [⟨.int .i64, 80⟩, ⟨.bool, true⟩, ⟨TSc, cnA 1⟩, ⟨TSc, cnA 0⟩] = some (cnA 1, cnA 0, true, ()) := by kernel_rfl
theorem t145_16_2 : fnT CA Tryz.f145 TRf [⟨.int .i64, 16⟩, ⟨.bool, true⟩, ⟨TSc, cnA 2⟩, ⟨TSc, cnA 0⟩] = some (cnA 0, cnA 0, false, ()) := by kernel_rfl
theorem t145_80_2 : fnT CA Tryz.f145 TRf [⟨.int .i64, 80⟩, ⟨.bool, true⟩, ⟨TSc, cnA 2⟩, ⟨TSc, cnA 0⟩] = some (cnA 2, cnA 0, true, ()) := by kernel_rfl
theorem t145_16_3 : fnT CA Tryz.f145 TRf [⟨.int .i64, 16⟩, ⟨.bool, true⟩, ⟨TSc, cnA 3⟩, ⟨TSc, cnA 0⟩] = some (cnA 0, cnA 0, false, ()) := by kernel_rfl
theorem t145_80_3 : fnT CA Tryz.f145 TRf [⟨.int .i64, 80⟩, ⟨.bool, true⟩, ⟨TSc, cnA 3⟩, ⟨TSc, cnA 0⟩] = some (cnA 3, cnA 0, true, ()) := by kernel_rfl
theorem t145_16_4 : fnT CA Tryz.f145 TRf [⟨.int .i64, 16⟩, ⟨.bool, true⟩, ⟨TSc, cnA 4⟩, ⟨TSc, cnA 0⟩] = some (cnA 0, cnA 0, false, ()) := by kernel_rfl
theorem t145_80_4 : fnT CA Tryz.f145 TRf [⟨.int .i64, 80⟩, ⟨.bool, true⟩, ⟨TSc, cnA 4⟩, ⟨TSc, cnA 0⟩] = some (cnA 4, cnA 0, true, ()) := by kernel_rfl
theorem t145_16_5 : fnT CA Tryz.f145 TRf [⟨.int .i64, 16⟩, ⟨.bool, true⟩, ⟨TSc, cnA 5⟩, ⟨TSc, cnA 0⟩] = some (cnA 0, cnA 0, false, ()) := by kernel_rfl
theorem t145_80_5 : fnT CA Tryz.f145 TRf [⟨.int .i64, 80⟩, ⟨.bool, true⟩, ⟨TSc, cnA 5⟩, ⟨TSc, cnA 0⟩] = some (cnA 5, cnA 0, true, ()) := by kernel_rfl
theorem t145_16_6 : fnT CA Tryz.f145 TRf [⟨.int .i64, 16⟩, ⟨.bool, true⟩, ⟨TSc, cnA 6⟩, ⟨TSc, cnA 0⟩] = some (cnA 0, cnA 0, false, ()) := by kernel_rfl
theorem t145_80_6 : fnT CA Tryz.f145 TRf [⟨.int .i64, 80⟩, ⟨.bool, true⟩, ⟨TSc, cnA 6⟩, ⟨TSc, cnA 0⟩] = some (cnA 6, cnA 0, true, ()) := by kernel_rfl
theorem t145_16_7 : fnT CA Tryz.f145 TRf [⟨.int .i64, 16⟩, ⟨.bool, true⟩, ⟨TSc, cnA 7⟩, ⟨TSc, cnA 0⟩] = some (cnA 0, cnA 0, false, ()) := by kernel_rfl
theorem t145_80_7 : fnT CA Tryz.f145 TRf [⟨.int .i64, 80⟩, ⟨.bool, true⟩, ⟨TSc, cnA 7⟩, ⟨TSc, cnA 0⟩] = some (cnA 7, cnA 0, true, ()) := by kernel_rfl
theorem t145_16_8 : fnT CA Tryz.f145 TRf [⟨.int .i64, 16⟩, ⟨.bool, true⟩, ⟨TSc, cnA 8⟩, ⟨TSc, cnA 0⟩] = some (cnA 0, cnA 0, false, ()) := by kernel_rfl
theorem t145_80_8 : fnT CA Tryz.f145 TRf [⟨.int .i64, 80⟩, ⟨.bool, true⟩, ⟨TSc, cnA 8⟩, ⟨TSc, cnA 0⟩] = some (cnA 8, cnA 0, true, ()) := by kernel_rfl
theorem t145_16_9 : fnT CA Tryz.f145 TRf [⟨.int .i64, 16⟩, ⟨.bool, true⟩, ⟨TSc, cnA 9⟩, ⟨TSc, cnA 0⟩] = some (cnA 0, cnA 0, false, ()) := by kernel_rfl
theorem t145_80_9 : fnT CA Tryz.f145 TRf [⟨.int .i64, 80⟩, ⟨.bool, true⟩, ⟨TSc, cnA 9⟩, ⟨TSc, cnA 0⟩] = some (cnA 9, cnA 0, true, ()) := by kernel_rfl
def okA (a : TSc.den) : Bool := decide (a.1.2.1 = 0) && (decide (a.2.1 = a.1.1) && (decide (a.2.2.1 = a.1.1) && (decide (0 ≤ a.1.1) && decide (a.1.1 ≤ 9))))
theorem okA_eq {a : TSc.den} (h : okA a = true) : ∃ n : Int, a = cnA n ∧ 0 ≤ n ∧ n ≤ 9 := by
  obtain ⟨⟨v, m, u⟩, l, g, u'⟩ := a
  unfold okA at h
  simp only [Bool.and_eq_true, decide_eq_true_eq] at h
  obtain ⟨h1, h2, h3, h4, h5⟩ := h
  subst h1; subst h2; subst h3
  exact ⟨_, rfl, h4, h5⟩
noncomputable def F145 : AD [.int .i64, .bool, TSc, TSc] → TRf.den := fun x => bif (decide (x.2.2.1.1.1 = 0) == decide (x.1 = 16)) then (x.2.2.1, cnA 0, true, ()) else (cnA 0, cnA 0, false, ())
noncomputable def G145 : AD [.int .i64, .bool, TSc, TSc] → Bool := fun x => x.2.1 && (okA x.2.2.1 && (okA x.2.2.2.1 && (decide (x.2.2.2.1.1.1 = 0) && (decide (x.1 = 16) || decide (x.1 = 80)))))
theorem p145 : ∀ x, G145 x = true → PureOK Tryz.prog 145 (mkA [.int .i64, .bool, TSc, TSc] x) ⟨TRf, F145 x⟩ := by
  rintro ⟨op, wd, a, b, u⟩ h
  unfold G145 at h
  simp only [Bool.and_eq_true, decide_eq_true_eq, Bool.or_eq_true] at h
  obtain ⟨h1, h2, h3, h4, h5⟩ := h
  obtain ⟨n, rfl, hn0, hn9⟩ := okA_eq h2
  obtain ⟨m, rfl, _, _⟩ := okA_eq h3
  have h4 : m = 0 := h4
  subst h1; subst h4
  have hn : n = 0 ∨ n = 1 ∨ n = 2 ∨ n = 3 ∨ n = 4 ∨ n = 5 ∨ n = 6 ∨ n = 7 ∨ n = 8 ∨ n = 9 := by omega
  rcases h5 with rfl | rfl
  · rcases hn with rfl | rfl | rfl | rfl | rfl | rfl | rfl | rfl | rfl | rfl
    · exact fnT_ok CAOK Tryz.func145 (fun c _ => LOK.none rfl 0 c) t145_16_0
    · exact fnT_ok CAOK Tryz.func145 (fun c _ => LOK.none rfl 0 c) t145_16_1
    · exact fnT_ok CAOK Tryz.func145 (fun c _ => LOK.none rfl 0 c) t145_16_2
    · exact fnT_ok CAOK Tryz.func145 (fun c _ => LOK.none rfl 0 c) t145_16_3
    · exact fnT_ok CAOK Tryz.func145 (fun c _ => LOK.none rfl 0 c) t145_16_4
    · exact fnT_ok CAOK Tryz.func145 (fun c _ => LOK.none rfl 0 c) t145_16_5
    · exact fnT_ok CAOK Tryz.func145 (fun c _ => LOK.none rfl 0 c) t145_16_6
    · exact fnT_ok CAOK Tryz.func145 (fun c _ => LOK.none rfl 0 c) t145_16_7
    · exact fnT_ok CAOK Tryz.func145 (fun c _ => LOK.none rfl 0 c) t145_16_8
    · exact fnT_ok CAOK Tryz.func145 (fun c _ => LOK.none rfl 0 c) t145_16_9
  · rcases hn with rfl | rfl | rfl | rfl | rfl | rfl | rfl | rfl | rfl | rfl
    · exact fnT_ok CAOK Tryz.func145 (fun c _ => LOK.none rfl 0 c) t145_80_0
    · exact fnT_ok CAOK Tryz.func145 (fun c _ => LOK.none rfl 0 c) t145_80_1
    · exact fnT_ok CAOK Tryz.func145 (fun c _ => LOK.none rfl 0 c) t145_80_2
    · exact fnT_ok CAOK Tryz.func145 (fun c _ => LOK.none rfl 0 c) t145_80_3
    · exact fnT_ok CAOK Tryz.func145 (fun c _ => LOK.none rfl 0 c) t145_80_4
    · exact fnT_ok CAOK Tryz.func145 (fun c _ => LOK.none rfl 0 c) t145_80_5
    · exact fnT_ok CAOK Tryz.func145 (fun c _ => LOK.none rfl 0 c) t145_80_6
    · exact fnT_ok CAOK Tryz.func145 (fun c _ => LOK.none rfl 0 c) t145_80_7
    · exact fnT_ok CAOK Tryz.func145 (fun c _ => LOK.none rfl 0 c) t145_80_8
    · exact fnT_ok CAOK Tryz.func145 (fun c _ => LOK.none rfl 0 c) t145_80_9
def prD : List TIn.den := [(183, (1, (0, (0, (10, ()))))), (23, (1, (0, (0, (1, ()))))), (85, (1, (0, (-2, (0, ()))))), (183, (0, (0, (0, (0, ()))))), xI]
theorem tD16 : fnT CA Tryz.f16 TCk [⟨.vsl TIn, prD⟩] = some (0, 0, ()) := by kernel_rfl
theorem tD18 : fnT CA Tryz.f18 (.vsl .bool) [⟨.vsl TIn, prD⟩] = some [true, true, true, true, true] := by kernel_rfl
theorem tD19 : fnT CA Tryz.f19 (.vsl .bool) [⟨.vsl TIn, prD⟩] = some [false, true, false, false, false] := by kernel_rfl
noncomputable def FD16 : AD [.vsl TIn] → Ty.den TCk := fun _ => (0, 0, ())
noncomputable def GD16 : AD [.vsl TIn] → Bool := fun x => decide (x.1 = prD)
theorem pD16 : ∀ x, GD16 x = true → PureOK Tryz.prog 16 (mkA [.vsl TIn] x) ⟨TCk, FD16 x⟩ := by
  rintro ⟨l, u⟩ h
  have h : l = prD := of_decide_eq_true h
  subst h
  exact fnT_ok CAOK Tryz.func16 (fun c _ => LOK.none rfl 0 c) tD16
noncomputable def FD18 : AD [.vsl TIn] → Ty.den (.vsl .bool) := fun _ => [true, true, true, true, true]
noncomputable def GD18 : AD [.vsl TIn] → Bool := fun x => decide (x.1 = prD)
theorem pD18 : ∀ x, GD18 x = true → PureOK Tryz.prog 18 (mkA [.vsl TIn] x) ⟨(.vsl .bool), FD18 x⟩ := by
  rintro ⟨l, u⟩ h
  have h : l = prD := of_decide_eq_true h
  subst h
  exact fnT_ok CAOK Tryz.func18 (fun c _ => LOK.none rfl 0 c) tD18
noncomputable def FD19 : AD [.vsl TIn] → Ty.den (.vsl .bool) := fun _ => [false, true, false, false, false]
noncomputable def GD19 : AD [.vsl TIn] → Bool := fun x => decide (x.1 = prD)
theorem pD19 : ∀ x, GD19 x = true → PureOK Tryz.prog 19 (mkA [.vsl TIn] x) ⟨(.vsl .bool), FD19 x⟩ := by
  rintro ⟨l, u⟩ h
  have h : l = prD := of_decide_eq_true h
  subst h
  exact fnT_ok CAOK Tryz.func19 (fun c _ => LOK.none rfl 0 c) tD19
abbrev TBn : Ty := .tup TSc (.tup (.int .i64) .tnil)
theorem t92_1 : fnT CA Tryz.f92 TBn [⟨.int .i64, 16⟩, ⟨.bool, true⟩, ⟨.bool, false⟩, ⟨TSc, cnA 1⟩, ⟨TSc, cnA 1⟩] = some (cnA 0, 0, ()) := by kernel_rfl
theorem t92_2 : fnT CA Tryz.f92 TBn [⟨.int .i64, 16⟩, ⟨.bool, true⟩, ⟨.bool, false⟩, ⟨TSc, cnA 2⟩, ⟨TSc, cnA 1⟩] = some (cnA 1, 0, ()) := by kernel_rfl
theorem t92_3 : fnT CA Tryz.f92 TBn [⟨.int .i64, 16⟩, ⟨.bool, true⟩, ⟨.bool, false⟩, ⟨TSc, cnA 3⟩, ⟨TSc, cnA 1⟩] = some (cnA 2, 0, ()) := by kernel_rfl
theorem t92_4 : fnT CA Tryz.f92 TBn [⟨.int .i64, 16⟩, ⟨.bool, true⟩, ⟨.bool, false⟩, ⟨TSc, cnA 4⟩, ⟨TSc, cnA 1⟩] = some (cnA 3, 0, ()) := by kernel_rfl
theorem t92_5 : fnT CA Tryz.f92 TBn [⟨.int .i64, 16⟩, ⟨.bool, true⟩, ⟨.bool, false⟩, ⟨TSc, cnA 5⟩, ⟨TSc, cnA 1⟩] = some (cnA 4, 0, ()) := by kernel_rfl
theorem t92_6 : fnT CA Tryz.f92 TBn [⟨.int .i64, 16⟩, ⟨.bool, true⟩, ⟨.bool, false⟩, ⟨TSc, cnA 6⟩, ⟨TSc, cnA 1⟩] = some (cnA 5, 0, ()) := by kernel_rfl
theorem t92_7 : fnT CA Tryz.f92 TBn [⟨.int .i64, 16⟩, ⟨.bool, true⟩, ⟨.bool, false⟩, ⟨TSc, cnA 7⟩, ⟨TSc, cnA 1⟩] = some (cnA 6, 0, ()) := by kernel_rfl
theorem t92_8 : fnT CA Tryz.f92 TBn [⟨.int .i64, 16⟩, ⟨.bool, true⟩, ⟨.bool, false⟩, ⟨TSc, cnA 8⟩, ⟨TSc, cnA 1⟩] = some (cnA 7, 0, ()) := by kernel_rfl
theorem t92_9 : fnT CA Tryz.f92 TBn [⟨.int .i64, 16⟩, ⟨.bool, true⟩, ⟨.bool, false⟩, ⟨TSc, cnA 9⟩, ⟨TSc, cnA 1⟩] = some (cnA 8, 0, ()) := by kernel_rfl
theorem t92_10 : fnT CA Tryz.f92 TBn [⟨.int .i64, 16⟩, ⟨.bool, true⟩, ⟨.bool, false⟩, ⟨TSc, cnA 10⟩, ⟨TSc, cnA 1⟩] = some (cnA 9, 0, ()) := by kernel_rfl
def okB (a : TSc.den) : Bool := decide (a.1.2.1 = 0) && (decide (a.2.1 = a.1.1) && (decide (a.2.2.1 = a.1.1) && (decide (1 ≤ a.1.1) && decide (a.1.1 ≤ 10))))
theorem okB_eq {a : TSc.den} (h : okB a = true) : ∃ n : Int, a = cnA n ∧ 1 ≤ n ∧ n ≤ 10 := by
  obtain ⟨⟨v, m, u⟩, l, g, u'⟩ := a
  unfold okB at h
  simp only [Bool.and_eq_true, decide_eq_true_eq] at h
  obtain ⟨h1, h2, h3, h4, h5⟩ := h
  subst h1; subst h2; subst h3
  exact ⟨_, rfl, h4, h5⟩
noncomputable def F92 : AD [.int .i64, .bool, .bool, TSc, TSc] → TBn.den := fun x => (((x.2.2.2.1.1.1 - 1, (0, ())), (x.2.2.2.1.1.1 - 1, (x.2.2.2.1.1.1 - 1, ()))), 0, ())
noncomputable def G92 : AD [.int .i64, .bool, .bool, TSc, TSc] → Bool := fun x => decide (x.1 = 16) && (x.2.1 && (!x.2.2.1 && (okB x.2.2.2.1 && (okB x.2.2.2.2.1 && decide (x.2.2.2.2.1.1.1 = 1)))))
theorem p92 : ∀ x, G92 x = true → PureOK Tryz.prog 92 (mkA [.int .i64, .bool, .bool, TSc, TSc] x) ⟨TBn, F92 x⟩ := by
  rintro ⟨op, wd, sg, a, b, u⟩ h
  unfold G92 at h
  simp only [Bool.and_eq_true, decide_eq_true_eq, Bool.not_eq_true'] at h
  obtain ⟨h1, h2, h3, h4, h5, h6⟩ := h
  obtain ⟨n, rfl, hn0, hn9⟩ := okB_eq h4
  obtain ⟨m, rfl, _, _⟩ := okB_eq h5
  have h6 : m = 1 := h6
  subst h1; subst h2; subst h3; subst h6
  have hn : n = 1 ∨ n = 2 ∨ n = 3 ∨ n = 4 ∨ n = 5 ∨ n = 6 ∨ n = 7 ∨ n = 8 ∨ n = 9 ∨ n = 10 := by omega
  rcases hn with rfl | rfl | rfl | rfl | rfl | rfl | rfl | rfl | rfl | rfl
  · exact fnT_ok CAOK Tryz.func92 (fun c _ => LOK.none rfl 0 c) t92_1
  · exact fnT_ok CAOK Tryz.func92 (fun c _ => LOK.none rfl 0 c) t92_2
  · exact fnT_ok CAOK Tryz.func92 (fun c _ => LOK.none rfl 0 c) t92_3
  · exact fnT_ok CAOK Tryz.func92 (fun c _ => LOK.none rfl 0 c) t92_4
  · exact fnT_ok CAOK Tryz.func92 (fun c _ => LOK.none rfl 0 c) t92_5
  · exact fnT_ok CAOK Tryz.func92 (fun c _ => LOK.none rfl 0 c) t92_6
  · exact fnT_ok CAOK Tryz.func92 (fun c _ => LOK.none rfl 0 c) t92_7
  · exact fnT_ok CAOK Tryz.func92 (fun c _ => LOK.none rfl 0 c) t92_8
  · exact fnT_ok CAOK Tryz.func92 (fun c _ => LOK.none rfl 0 c) t92_9
  · exact fnT_ok CAOK Tryz.func92 (fun c _ => LOK.none rfl 0 c) t92_10
theorem t144_80 : fnT CA Tryz.f144 (.int .i64) [⟨.int .i64, 80⟩] = some 16 := by kernel_rfl
noncomputable def F144 : AD [.int .i64] → Ty.den (.int .i64) := fun _ => 16
noncomputable def G144 : AD [.int .i64] → Bool := fun x => decide (x.1 = 80)
theorem p144 : ∀ x, G144 x = true → PureOK Tryz.prog 144 (mkA [.int .i64] x) ⟨.int .i64, F144 x⟩ := by
  rintro ⟨l, u⟩ h
  have h : l = 80 := of_decide_eq_true h
  subst h
  exact fnT_ok CAOK Tryz.func144 (fun c _ => LOK.none rfl 0 c) t144_80
@[reducible] def KTq0 : Ty := (.pair (.int .i64) .unit)
@[reducible] def KTq1 : Ty := (.pair (.int .i64) KTq0)
@[reducible] def KTq2 : Ty := (.pair (.int .i64) KTq1)
@[reducible] def KTq3 : Ty := (.pair (.int .i64) KTq2)
@[reducible] def KTq4 : Ty := (.pair (.int .i64) KTq3)
@[reducible] def KTq5 : Ty := (.pair (.int .u64) .unit)
@[reducible] def KTq6 : Ty := (.pair (.int .u64) KTq5)
@[reducible] def KTq7 : Ty := (.pair (.pair KTq6 KTq6) KTq2)
@[reducible] def KTq8 : Ty := (.pair (.int .i64) KTq7)
@[reducible] def KTq9 : Ty := (.pair (.int .i64) (.pair KTq8 .unit))
@[reducible] def KTq10 : Ty := (.pair (.int .i64) KTq9)
@[reducible] def KTq11 : Ty := (.pair (.vsl (.int .i64)) KTq0)
@[reducible] def KTq12 : Ty := (.pair (.int .i64) KTq11)
@[reducible] def KTq13 : Ty := (.pair (.arr 64 KTq10) KTq12)
@[reducible] def KTq14 : Ty := (.pair (.arr 11 KTq8) KTq13)
@[reducible] def KTq15 : Ty := (.tup (.int .i64) .tnil)
@[reducible] def KTq16 : Ty := (.pair (.vsl KTq4) KTq0)
@[reducible] def KTq17 : Ty := (.pair (.vsl KTq3) KTq16)
@[reducible] def KTq18 : Ty := (.vsl (.pair KTq14 KTq0))
@[reducible] def KTq19 : Ty := (.tup KTq18 (.tup .bool .tnil))
@[reducible] def KTq20 : Ty := (.tup (.int .u64) KTq15)
noncomputable def F56 : AD [KTq4, KTq4] → Ty.den (.int .u64) := fun _ => dflt (.int .u64)
noncomputable def G56 : AD [KTq4, KTq4] → Bool := fun _ => false
theorem p56 : ∀ x, G56 x = true → PureOK Tryz.prog 56 (mkA [KTq4, KTq4] x) ⟨(.int .u64), F56 x⟩ := fun _ h => nomatch h
noncomputable def F58 : AD [KTq14, (.vsl KTq3), KTq4] → Ty.den (.tup KTq14 KTq15) := fun _ => dflt (.tup KTq14 KTq15)
noncomputable def G58 : AD [KTq14, (.vsl KTq3), KTq4] → Bool := fun _ => false
theorem p58 : ∀ x, G58 x = true → PureOK Tryz.prog 58 (mkA [KTq14, (.vsl KTq3), KTq4] x) ⟨(.tup KTq14 KTq15), F58 x⟩ := fun _ h => nomatch h
noncomputable def F59 : AD [KTq14, (.vsl KTq3), KTq4] → Ty.den (.tup KTq14 KTq15) := fun _ => dflt (.tup KTq14 KTq15)
noncomputable def G59 : AD [KTq14, (.vsl KTq3), KTq4] → Bool := fun _ => false
theorem p59 : ∀ x, G59 x = true → PureOK Tryz.prog 59 (mkA [KTq14, (.vsl KTq3), KTq4] x) ⟨(.tup KTq14 KTq15), F59 x⟩ := fun _ h => nomatch h
noncomputable def F61 : AD [KTq14, (.vsl KTq3), (.int .i64)] → Ty.den (.tup KTq14 KTq15) := fun _ => dflt (.tup KTq14 KTq15)
noncomputable def G61 : AD [KTq14, (.vsl KTq3), (.int .i64)] → Bool := fun _ => false
theorem p61 : ∀ x, G61 x = true → PureOK Tryz.prog 61 (mkA [KTq14, (.vsl KTq3), (.int .i64)] x) ⟨(.tup KTq14 KTq15), F61 x⟩ := fun _ h => nomatch h
noncomputable def F86 : AD [] → Ty.den (.pair KTq6 KTq6) := fun _ => dflt (.pair KTq6 KTq6)
noncomputable def G86 : AD [] → Bool := fun _ => false
theorem p86 : ∀ x, G86 x = true → PureOK Tryz.prog 86 (mkA [] x) ⟨(.pair KTq6 KTq6), F86 x⟩ := fun _ h => nomatch h
noncomputable def F89 : AD [KTq4, (.pair KTq6 KTq6)] → Ty.den (.pair KTq6 KTq6) := fun _ => dflt (.pair KTq6 KTq6)
noncomputable def G89 : AD [KTq4, (.pair KTq6 KTq6)] → Bool := fun _ => false
theorem p89 : ∀ x, G89 x = true → PureOK Tryz.prog 89 (mkA [KTq4, (.pair KTq6 KTq6)] x) ⟨(.pair KTq6 KTq6), F89 x⟩ := fun _ h => nomatch h
noncomputable def F93 : AD [KTq4, KTq8, KTq8] → Ty.den (.tup KTq8 KTq15) := fun _ => dflt (.tup KTq8 KTq15)
noncomputable def G93 : AD [KTq4, KTq8, KTq8] → Bool := fun _ => false
theorem p93 : ∀ x, G93 x = true → PureOK Tryz.prog 93 (mkA [KTq4, KTq8, KTq8] x) ⟨(.tup KTq8 KTq15), F93 x⟩ := fun _ h => nomatch h
noncomputable def F96 : AD [(.pair KTq6 KTq6), (.int .i64)] → Ty.den (.pair KTq6 KTq6) := fun _ => dflt (.pair KTq6 KTq6)
noncomputable def G96 : AD [(.pair KTq6 KTq6), (.int .i64)] → Bool := fun _ => false
theorem p96 : ∀ x, G96 x = true → PureOK Tryz.prog 96 (mkA [(.pair KTq6 KTq6), (.int .i64)] x) ⟨(.pair KTq6 KTq6), F96 x⟩ := fun _ h => nomatch h
noncomputable def F103 : AD [KTq14, (.int .i64), .bool] → Ty.den KTq14 := fun _ => dflt KTq14
noncomputable def G103 : AD [KTq14, (.int .i64), .bool] → Bool := fun _ => false
theorem p103 : ∀ x, G103 x = true → PureOK Tryz.prog 103 (mkA [KTq14, (.int .i64), .bool] x) ⟨KTq14, F103 x⟩ := fun _ h => nomatch h
noncomputable def F104 : AD [(.pair KTq14 KTq17), KTq8, KTq8] → Ty.den KTq19 := fun _ => dflt KTq19
noncomputable def G104 : AD [(.pair KTq14 KTq17), KTq8, KTq8] → Bool := fun _ => false
theorem p104 : ∀ x, G104 x = true → PureOK Tryz.prog 104 (mkA [(.pair KTq14 KTq17), KTq8, KTq8] x) ⟨KTq19, F104 x⟩ := fun _ h => nomatch h
noncomputable def F131 : AD [(.int .u64), (.int .i64), .bool] → Ty.den KTq20 := fun _ => dflt KTq20
noncomputable def G131 : AD [(.int .u64), (.int .i64), .bool] → Bool := fun _ => false
theorem p131 : ∀ x, G131 x = true → PureOK Tryz.prog 131 (mkA [(.int .u64), (.int .i64), .bool] x) ⟨KTq20, F131 x⟩ := fun _ h => nomatch h
end Go.Proofs
