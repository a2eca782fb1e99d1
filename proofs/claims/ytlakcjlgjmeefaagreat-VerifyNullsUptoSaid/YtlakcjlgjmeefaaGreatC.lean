import Derived.Test.YtlakcjlgjmeefaaGreatIE
namespace Go.Proofs
open Go.GX
set_option linter.unusedVariables false
set_option maxRecDepth 100000
@[reducible] def KTr0 : Ty := (.pair (.int .u64) .unit)
@[reducible] def KTr1 : Ty := (.pair (.int .u64) KTr0)
@[reducible] def KTr2 : Ty := (.tup (.pair KTr1 KTr1) (.tup .bool .tnil))
@[reducible] def KTr3 : Ty := (.tup (.pair KTr1 KTr1) KTr2)
@[reducible] def KTr4 : Ty := (.tup (.int .i64) .tnil)
@[reducible] def KTr5 : Ty := (.tup (.pair KTr1 KTr1) KTr4)
@[reducible] def KTr6 : Ty := (.pair (.int .i64) .unit)
@[reducible] def KTr7 : Ty := (.pair (.int .i64) KTr6)
@[reducible] def KTr8 : Ty := (.pair (.int .i64) KTr7)
@[reducible] def KTr9 : Ty := (.pair (.pair KTr1 KTr1) KTr8)
@[reducible] def KTr10 : Ty := (.pair (.int .i64) KTr9)
@[reducible] def KTr11 : Ty := (.pair (.int .i64) (.pair KTr10 .unit))
@[reducible] def KTr12 : Ty := (.pair (.int .i64) KTr11)
@[reducible] def KTr13 : Ty := (.pair (.vsl (.int .i64)) KTr6)
@[reducible] def KTr14 : Ty := (.pair (.int .i64) KTr13)
@[reducible] def KTr15 : Ty := (.pair (.arr 64 KTr12) KTr14)
@[reducible] def KTr16 : Ty := (.pair (.arr 11 KTr10) KTr15)
@[reducible] def KTr17 : Ty := (.pair (.int .i64) KTr8)
@[reducible] def KTr18 : Ty := (.pair (.int .i64) KTr17)
@[reducible] def KTr19 : Ty := (.pair (.vsl KTr18) KTr6)
@[reducible] def KTr20 : Ty := (.pair (.vsl KTr17) KTr19)
@[reducible] def KTr21 : Ty := (.vsl (.pair KTr16 KTr6))
noncomputable def DB : Kn := kOf [(69, sm [(.vsl (.int .i64))] (.vsl (.int .i64)) F69 G69), (145, sm [(.int .i64), .bool, (.pair KTr1 KTr1), (.pair KTr1 KTr1)] KTr3 F145 G145), (92, sm [(.int .i64), .bool, .bool, (.pair KTr1 KTr1), (.pair KTr1 KTr1)] KTr5 F92 G92), (26, sm [(.pair KTr16 KTr20)] (.tup KTr21 KTr4) F26 G26), (16, sm [(.vsl KTr18)] (.tup (.int .i64) KTr4) FD16 GD16), (18, sm [(.vsl KTr18)] (.vsl .bool) FD18 GD18), (19, sm [(.vsl KTr18)] (.vsl .bool) FD19 GD19), (35, sm [KTr16] KTr16 F35 G35)]
theorem DBOK : KOK Tryz.prog DB := (KOK.cons Tryz.call69 (SmOK.sm p69) (KOK.cons Tryz.call145 (SmOK.sm p145) (KOK.cons Tryz.call92 (SmOK.sm p92) (KOK.cons Tryz.call26 (SmOK.sm p26) (KOK.cons Tryz.call16 (SmOK.sm pD16) (KOK.cons Tryz.call18 (SmOK.sm pD18) (KOK.cons Tryz.call19 (SmOK.sm pD19) (KOK.cons Tryz.call35 (SmOK.sm p35) KOK.nil))))))))
noncomputable def CB : Cx := ⟨true, Tryz.Θl, KX Tryz.Θl Tryz.F DB 100 14, 100, fun _ => none, fun _ => none⟩
theorem CBOK : CxOK Tryz.prog CB := ⟨Tryz.tabOKl, KX_ok Tryz.tabOKl Tryz.FOK DBOK (by kernel_rfl) 14, by kernel_rfl, POK.none⟩
abbrev TVd : Ty := KTr8
def pr_a : List TIn.den := [xI]
def pr_b : List TIn.den := [(183, (0, (0, (0, (0, ()))))), (5, (0, (0, (-2, (0, ()))))), xI]
def pr_c : List TIn.den := [(183, (0, (0, (0, (0, ()))))), (5, (0, (0, (-2, (0, ())))))]
def pr_d : List TIn.den := prD
theorem t10_a : fnT CA Tryz.f10 TVd [⟨.vsl TIn, pr_a⟩, ⟨(.vsl KTr17), []⟩, ⟨.int .i64, 100⟩] = some (60, (0, (1, ()))) := by kernel_rfl
theorem t10_b : fnT CA Tryz.f10 TVd [⟨.vsl TIn, pr_b⟩, ⟨(.vsl KTr17), []⟩, ⟨.int .i64, 100⟩] = some (32, (2, (0, ()))) := by kernel_rfl
theorem t10_c : fnT CA Tryz.f10 TVd [⟨.vsl TIn, pr_c⟩, ⟨(.vsl KTr17), []⟩, ⟨.int .i64, 100⟩] = some (64, (0, (2, ()))) := by kernel_rfl
theorem t10_d : fnT CB Tryz.f10 TVd [⟨.vsl TIn, pr_d⟩, ⟨(.vsl KTr17), []⟩, ⟨.int .i64, 100⟩] = some (0, (0, (23, ()))) := by kernel_rfl
noncomputable def F10 : AD [.vsl TIn, (.vsl KTr17), .int .i64] → TVd.den := fun x => bif decide (x.1 = pr_a) then (60, (0, (1, ()))) else bif decide (x.1 = pr_b) then (32, (2, (0, ()))) else bif decide (x.1 = pr_c) then (64, (0, (2, ()))) else (0, (0, (23, ())))
noncomputable def G10 : AD [.vsl TIn, (.vsl KTr17), .int .i64] → Bool := fun x => (decide (x.1 = pr_a) || (decide (x.1 = pr_b) || (decide (x.1 = pr_c) || decide (x.1 = pr_d)))) && (decide (x.2.1 = []) && decide (x.2.2.1 = 100))
theorem p10 : ∀ x, G10 x = true → PureOK Tryz.prog 10 (mkA [.vsl TIn, (.vsl KTr17), .int .i64] x) ⟨TVd, F10 x⟩ := by
  rintro ⟨l, m, b, u⟩ h
  unfold G10 at h
  simp only [Bool.and_eq_true, decide_eq_true_eq, Bool.or_eq_true] at h
  obtain ⟨h1, h2, h3⟩ := h
  subst h2; subst h3
  rcases h1 with rfl | rfl | rfl | rfl
  · exact fnT_ok CAOK Tryz.func10 (fun c _ => LOK.none rfl 0 c) t10_a
  · exact fnT_ok CAOK Tryz.func10 (fun c _ => LOK.none rfl 0 c) t10_b
  · exact fnT_ok CAOK Tryz.func10 (fun c _ => LOK.none rfl 0 c) t10_c
  · exact fnT_ok CBOK Tryz.func10 (fun c _ => LOK.none rfl 0 c) t10_d
noncomputable def DC : Kn := kOf [(10, sm [.vsl TIn, (.vsl KTr17), .int .i64] TVd F10 G10)]
theorem DCOK : KOK Tryz.prog DC := KOK.cons Tryz.call10 (SmOK.sm p10) KOK.nil
noncomputable def CC : Cx := ⟨true, Tryz.Θ, KX Tryz.Θ Tryz.F DC 100 14, 100, fun _ => none, fun _ => none⟩
theorem CCOK : CxOK Tryz.prog CC := ⟨Tryz.tabOK, KX_ok Tryz.tabOK Tryz.FOK DCOK (by kernel_rfl) 14, by kernel_rfl, POK.none⟩
noncomputable def F9 : Unit → Bool := fun _ => true
noncomputable def G9 : Unit → Bool := fun _ => true
theorem t9 : fnT CC Tryz.f9 .bool [] = some true := by kernel_rfl
theorem p9 : ∀ x, G9 x = true → PureOK Tryz.prog 9 (mkA [] x) ⟨.bool, F9 x⟩ := fun x _ => fnT_ok CCOK Tryz.func9 (fun c _ => LOK.none rfl 0 c) t9
end Go.Proofs
