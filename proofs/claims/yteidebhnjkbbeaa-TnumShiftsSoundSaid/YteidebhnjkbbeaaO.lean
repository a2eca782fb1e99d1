import Derived.Test.YteidebhnjkbbeaaN
namespace Go.Proofs
open Go.GX
set_option linter.unusedVariables false
set_option linter.unusedSimpArgs false
theorem SmOK.pSb {P : Program} {f : Nat} {g : List V → Option (V × Bool)} (h : ∀ args v, g args = some (v, true) → PureOK P f args v) : SmOK P f (Go.Proofs.pSb g) := by
  intro args mem nxt v mem' nxt' hg base φ w xs hm hA
  unfold Go.Proofs.pSb at hg
  cases e : g args with
  | none => rw [e] at hg; cases hg
  | some r =>
    obtain ⟨v', c⟩ := r
    rw [e] at hg
    simp only [Option.some.injEq, Prod.mk.injEq] at hg
    obtain ⟨rfl, rfl, rfl, rfl⟩ := hg
    refine (h args v' e φ w xs hA).mono ?_
    rintro e w' ⟨x, rfl, h1, h2⟩
    exact ⟨φ, x, rfl, Phi.le_refl _, hm.same (Below.same h2 (Nat.le_refl _)) (Nat.le_refl _), h2.mono hm.base, h1⟩
theorem mix : Try.prog.follows .mixedOrders = true := by kernel_rfl
theorem K0_ok : KOK Try.prog K0 := KX_ok Try.tabOK Try.FOK KOK.none mix 10
theorem t12 : fnT (CxA K0) Try.f12 .bool [] = some true := by kernel_rfl
theorem p12 : ∀ args v, G_0 args = some v → PureOK Try.prog 12 args v := by
  intro args v h; unfold G_0 at h; split at h
  · cases h; exact fnT_pure Try.tabOK K0_ok mix Try.func12 t12
  · cases h
theorem p9 : ∀ args v, G_T fMay args = some v → PureOK Try.prog 9 args v := by
  intro args v h; unfold G_T at h; split at h
  · cases h; exact fnT_pure Try.tabOK K0_ok mix Try.func9 (t9 _)
  · cases h
theorem p13 : ∀ args v, G_TU (T := .int .u64) fOne args = some v → PureOK Try.prog 13 args v := by
  intro args v h; unfold G_TU at h; split at h
  · cases h; exact fnT_pure Try.tabOK K0_ok mix Try.func13 (t13 _ _)
  · cases h
theorem p15 : ∀ args v, G_TU (T := .bool) fHas args = some v → PureOK Try.prog 15 args v := by
  intro args v h; unfold G_TU at h; split at h
  · cases h; exact fnT_pure Try.tabOK K0_ok mix Try.func15 (t15 _ _)
  · cases h
theorem p16 : ∀ args v, G_TU (T := .bool) fRHas args = some v → PureOK Try.prog 16 args v := by
  intro args v h; unfold G_TU at h; split at h
  · cases h; exact fnT_pure Try.tabOK K0_ok mix Try.func16 (t16 _ _)
  · cases h
theorem p17 : ∀ args v, G_TT (T := TBo) fMeet args = some v → PureOK Try.prog 17 args v := by
  intro args v h; unfold G_TT at h; split at h
  · cases h; exact fnT_pure Try.tabOK K0_ok mix Try.func17 ((t17 _ _).trans (meet_some _ _))
  · cases h
theorem p18 : ∀ args v, G_TT (T := TBo) fRMeet args = some v → PureOK Try.prog 18 args v := by
  intro args v h; unfold G_TT at h; split at h
  · cases h; exact fnT_pure Try.tabOK K0_ok mix Try.func18 ((t18 _ _).trans (rmeet_some _ _))
  · cases h
theorem p20 : ∀ args v, G_TT (T := .bool) fRIn args = some v → PureOK Try.prog 20 args v := by
  intro args v h; unfold G_TT at h; split at h
  · rename_i x y
    cases h; exact fnT_pure Try.tabOK K0_ok mix Try.func20 ((t20 _ _).trans (by unfold S20 fRIn; cases decide (iandn .u64 y.2.1 x.2.1 = 0) <;> rfl))
  · cases h
theorem p21 : ∀ args v, G_TT (T := Tn) fJoin args = some v → PureOK Try.prog 21 args v := by
  intro args v h; unfold G_TT at h; split at h
  · cases h; exact fnT_pure Try.tabOK K0_ok mix Try.func21 (t21 _ _)
  · cases h
theorem p22 : ∀ args v, G_TT (T := Tn) fJoin args = some v → PureOK Try.prog 22 args v := by
  intro args v h; unfold G_TT at h; split at h
  · cases h; exact fnT_pure Try.tabOK K0_ok mix Try.func22 (t22 _ _)
  · cases h
theorem p42 : ∀ args v, G_U (T := .int .i64) fLen inU args = some (v, true) → PureOK Try.prog 42 args v := by
  intro args v h; unfold G_U at h; split at h
  · rename_i x
    simp only [Option.some.injEq, Prod.mk.injEq] at h
    obtain ⟨rfl, h⟩ := h
    obtain ⟨L, h1, _⟩ := len_some x (inU_iff.1 h)
    exact fnT_pure Try.tabOK K0_ok mix Try.func42 ((t42 _).trans (by unfold fLen; rw [h1]; rfl))
  · cases h
theorem K5a_ok : KOK Try.prog (K5a Q5) := KX_ok Try.tabOK Try.FOK (KOK.cons Try.call15 (.pS p15) (KOK.cons Try.call42 (SmOK.pSb p42) KOK.nil)) mix 10
theorem p19 : ∀ args v, G_TT (T := .bool) fIn args = some v → PureOK Try.prog 19 args v := by
  intro args v h; unfold G_TT at h; split at h
  · rename_i x y
    cases h; exact fnT_pure Try.tabOK K5a_ok mix Try.func19 ((t19 Q5 _ _).trans (by unfold S19 fIn; cases decide (ior .u64 x.2.1 y.2.1 = x.2.1) <;> rfl))
  · cases h
theorem of_some (x y : Int) : S23 Q5 x y = some (fOf x y) := by
  unfold S23
  rw [show Q5.len = fLen from rfl, show Q5.iu = inU from rfl, len_nn, inU_ixor, tt_eq]; rfl
theorem p23 : ∀ args v, G_UU (T := Tn) fOf inU args = some (v, true) → PureOK Try.prog 23 args v := by
  intro args v h; unfold G_UU at h; split at h
  · rename_i x y
    simp only [Option.some.injEq, Prod.mk.injEq] at h
    obtain ⟨rfl, h⟩ := h
    exact fnT_pure Try.tabOK K5a_ok mix Try.func23 ((t23 Q5 x y).trans (of_some x y))
  · cases h
theorem p24 : ∀ args v, G_UU (T := Tn) fROf inU args = some (v, true) → PureOK Try.prog 24 args v := by
  intro args v h; unfold G_UU at h; split at h
  · rename_i x y
    simp only [Option.some.injEq, Prod.mk.injEq] at h
    obtain ⟨rfl, h⟩ := h
    exact fnT_pure Try.tabOK K0_ok mix Try.func24 ((t24 x y).trans (by rw [← of_eq]; exact rof_some x y))
  · cases h
theorem cast_eq (x : Tn.den) (n : Int) (hx : InR x.1 ∧ InR x.2.1) : S28 x n = some (fCast x n) ∧ S29 x n = some (fRCast x n) ∧ fCast x n = fRCast x n := by
  by_cases h1 : n = 8
  · subst h1; exact ⟨rfl, rfl, rfl⟩
  by_cases h2 : n = 16
  · subst h2; exact ⟨rfl, rfl, rfl⟩
  by_cases h3 : n = 32
  · subst h3; exact ⟨rfl, rfl, rfl⟩
  simp [fCast, fRCast, S28, S29, h1, h2, h3]
theorem cast_some (x : Tn.den) (n : Int) : S28 x n = some (fCast x n) := by
  by_cases h1 : n = 8
  · subst h1; rfl
  by_cases h2 : n = 16
  · subst h2; rfl
  by_cases h3 : n = 32
  · subst h3; rfl
  simp [fCast, S28, h1, h2, h3]
theorem rcast_some (x : Tn.den) (n : Int) : S29 x n = some (fRCast x n) := by
  by_cases h1 : n = 8
  · subst h1; rfl
  by_cases h2 : n = 16
  · subst h2; rfl
  by_cases h3 : n = 32
  · subst h3; rfl
  simp [fRCast, S29, h1, h2, h3]
theorem p28 : ∀ args v, G_TI (T := Tn) fCast args = some v → PureOK Try.prog 28 args v := by
  intro args v h; unfold G_TI at h; split at h
  · cases h; exact fnT_pure Try.tabOK K0_ok mix Try.func28 ((t28 _ _).trans (cast_some _ _))
  · cases h
theorem p29 : ∀ args v, G_TI (T := Tn) fRCast args = some v → PureOK Try.prog 29 args v := by
  intro args v h; unfold G_TI at h; split at h
  · cases h; exact fnT_pure Try.tabOK K0_ok mix Try.func29 ((t29 _ _).trans (rcast_some _ _))
  · cases h
theorem K5_ok : KOK Try.prog (K5 Q5) := KX_ok Try.tabOK Try.FOK
  (KOK.cons Try.call12 (.pS p12) (KOK.cons Try.call9 (.pS p9) (KOK.cons Try.call13 (.pS p13) (KOK.cons Try.call15 (.pS p15) (KOK.cons Try.call16 (.pS p16) (KOK.cons Try.call17 (.pS p17) (KOK.cons Try.call18 (.pS p18)
    (KOK.cons Try.call19 (.pS p19) (KOK.cons Try.call20 (.pS p20) (KOK.cons Try.call21 (.pS p21) (KOK.cons Try.call22 (.pS p22) (KOK.cons Try.call23 (SmOK.pSb p23) (KOK.cons Try.call24 (SmOK.pSb p24)
      (KOK.cons Try.call28 (.pS p28) (KOK.cons Try.call29 (.pS p29) (KOK.cons Try.call42 (SmOK.pSb p42) KOK.nil)))))))))))))))) mix 10
end Go.Proofs
