import Derived.Test.YtfnjmgjpjjpegaaMD
namespace Go.Proofs
open Go.GX
set_option linter.unusedVariables false
set_option linter.unusedSimpArgs false
theorem wrap_nn (a : Int) : decide (0 ≤ IntKind.wrap .u64 a) = true := decide_eq_true (wrap_r a).1
theorem ext_some (a b : Int) (w : Bool) : fnT (CxA KN) Try.f14 UE [vU a, vI b, vB w] = some (s14 a b w) := by
  cases w
  · refine (t14f a b).trans ?_
    simp only [s14, S14f, cs, cond_false, cond_true, Bool.not_false, Bool.not_true, Option.getD_some]
  · refine (t14t a b).trans ?_
    simp only [s14, S14t, cs, cond_false, cond_true, Bool.not_false, Bool.not_true, Option.getD_some]
theorem rext_some (a b : Int) (w : Bool) : fnT (CxA KN) Try.f15 UE [vU a, vI b, vB w] = some (s15 a b w) := by
  cases w
  · refine (t15f a b).trans ?_
    simp only [s15, S15f, wrap_nn, tt_eq, Bool.and_self, cs, cond_false, cond_true, Bool.not_false, Bool.not_true, Option.getD_some]
  · refine (t15t a b).trans ?_
    simp only [s15, S15t, wrap_nn, tt_eq, Bool.and_self, cs, cond_false, cond_true, Bool.not_false, Bool.not_true, Option.getD_some]
theorem p23 : ∀ args v, g23 args = some v → PureOK Try.prog 23 args v := by
  intro args v h
  unfold g23 at h
  split at h
  · cases h
    exact fnT_pure Try.tabOK KN_ok mix Try.func23 ((t23 _).trans rfl)
  · cases h
theorem K16_ok : KOK Try.prog K16 := KOK.cons Try.call23 (.pS p23) KOK.nil
theorem swap_some (a w : Int) : fnT (CxA K16) Try.f16 UE [vU a, vI w] = some (s16 a w) := by
  refine (t16 a w).trans ?_
  by_cases h1 : w = 16
  · subst h1; rfl
  by_cases h2 : w = 32
  · subst h2; rfl
  by_cases h3 : w = 64
  · subst h3; rfl
  simp [s16, S16, h1, h2, h3]
theorem cut_some (a w : Int) : fnT (CxA KN) Try.f18 UE [vU a, vI w] = some (s18 a w) := by
  refine (t18 a w).trans ?_
  by_cases h1 : w = 16
  · subst h1; rfl
  by_cases h2 : w = 32
  · subst h2; rfl
  by_cases h3 : w = 64
  · subst h3; rfl
  simp [s18, S18, h1, h2, h3]
theorem rcut_some (a w : Int) : fnT (CxA KN) Try.f19 UE [vU a, vI w] = some (s19 a w) := by
  refine (t19 a w).trans ?_
  simp only [s19, S19, cs, Option.getD_some]
theorem p14 : ∀ args v, G14 s14 args = some v → PureOK Try.prog 14 args v := by
  intro args v h; unfold G14 at h; split at h
  · cases h; exact fnT_pure Try.tabOK KN_ok mix Try.func14 (ext_some _ _ _)
  · cases h
theorem p15 : ∀ args v, G14 s15 args = some v → PureOK Try.prog 15 args v := by
  intro args v h; unfold G14 at h; split at h
  · cases h; exact fnT_pure Try.tabOK KN_ok mix Try.func15 (rext_some _ _ _)
  · cases h
theorem p16 : ∀ args v, G16 s16 args = some v → PureOK Try.prog 16 args v := by
  intro args v h; unfold G16 at h; split at h
  · cases h; exact fnT_pure Try.tabOK K16_ok mix Try.func16 (swap_some _ _)
  · cases h
theorem p18 : ∀ args v, G16 s18 args = some v → PureOK Try.prog 18 args v := by
  intro args v h; unfold G16 at h; split at h
  · cases h; exact fnT_pure Try.tabOK KN_ok mix Try.func18 (cut_some _ _)
  · cases h
theorem p19 : ∀ args v, G16 s19 args = some v → PureOK Try.prog 19 args v := by
  intro args v h; unfold G16 at h; split at h
  · cases h; exact fnT_pure Try.tabOK KN_ok mix Try.func19 (rcut_some _ _)
  · cases h
theorem p17' (a w : Int) : PureOK Try.prog 17 [vU a, vI w] ⟨UE, s17 a w⟩ := by
  by_cases h1 : w = 16
  · subst h1; exact fnT_pure Try.tabOK KN_ok mix Try.func17 ((t17_16 a).trans rfl)
  by_cases h2 : w = 32
  · subst h2; exact fnT_pure Try.tabOK KN_ok mix Try.func17 ((t17_32 a).trans rfl)
  by_cases h3 : w = 64
  · subst h3; exact fnT_pure Try.tabOK KN_ok mix Try.func17 ((t17_64 a).trans rfl)
  refine fnT_pure Try.tabOK KN_ok mix Try.func17 ((t17e a w).trans ?_)
  simp [S17e, s17, h1, h2, h3]
theorem p17 : ∀ args v, G16 s17 args = some v → PureOK Try.prog 17 args v := by
  intro args v h; unfold G16 at h; split at h
  · cases h; exact p17' _ _
  · cases h
theorem p12' : ∀ args v, G12 s12 args = some v → PureOK Try.prog 12 args v := by
  intro args v h; unfold G12 at h; split at h
  · cases h; exact p12 _ _ rfl
  · cases h
theorem p13' : ∀ args v, G12 s13 args = some v → PureOK Try.prog 13 args v := by
  intro args v h; unfold G12 at h; split at h
  · cases h; exact p13 _ _ rfl
  · cases h
theorem K3_ok : KOK Try.prog (K3 Q) :=
  KOK.cons Try.call11 (.pS p11) (KOK.cons Try.call9 (SmOK.pSb p9) (KOK.cons Try.call10 (SmOK.pSb p10) (KOK.cons Try.call12 (.pS p12') (KOK.cons Try.call13 (.pS p13')
    (KOK.cons Try.call14 (.pS p14) (KOK.cons Try.call15 (.pS p15) (KOK.cons Try.call16 (.pS p16) (KOK.cons Try.call17 (.pS p17) (KOK.cons Try.call18 (.pS p18) (KOK.cons Try.call19 (.pS p19) KOK.nil))))))))))
theorem inU_wf {a : Int} (h : WF (.int .u64) a) : inU a = true := inU_iff.2 (wf_u64 h)
theorem inU_arr {n : Nat} {l : List Int} (h : WF (.arr n (.int .u64)) l) (i : Nat) : inU (l.getD i 0) = true := inU_iff.2 (wf_arr h i)
theorem aluBins_pure (op : Int) (_ : WF (.int .i64) op) (h : List Bool) (_ : WF (.arr 2 .bool) h) (n : List Int) (hn : WF (.arr 2 (.int .u64)) n) : PureOK Try.prog 3 [vI op, ⟨.arr 2 .bool, h⟩, ⟨.arr 2 (.int .u64), n⟩] ⟨.bool, true⟩ :=
  fnT_pure Try.tabOK K3_ok mix Try.func3 (lf := 100) ((tL3 Q op h n).trans (l3_true op h n (inU_arr hn)))
theorem aluHalves_pure (op : Int) (_ : WF (.int .i64) op) (s : Bool) (_ : WF .bool s) (n : List Int) (hn : WF (.arr 4 (.int .u64)) n) : PureOK Try.prog 5 [vI op, vB s, ⟨.arr 4 (.int .u64), n⟩] ⟨.bool, true⟩ :=
  fnT_pure Try.tabOK K3_ok mix Try.func5 (lf := 100) ((tL5 Q op s n).trans (l5_true op s n (inU_arr hn)))
end Go.Proofs
