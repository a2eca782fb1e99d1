import Derived.Test.YteidebhnjkbbeaaU
namespace Go.Proofs
open Go.GX
set_option linter.unusedVariables false
set_option linter.unusedSimpArgs false
def fRShf (op : Int) (x : Tn.den) (d : Int) (w : Bool) : TE.den := (bif w then S27t Q7a op x d else S27f Q7a op x d).getD ((0, (0, ())), 1, ())
def Q7 : Sp7 := ⟨fMay, fCast, fRCast, fSh, fShf, fRShf, fun d => decide (0 ≤ d)⟩
theorem s26t_some (op : Int) (x : Tn.den) (d : Int) : ∃ r, S26t op x d = some r := by
  unfold S26t
  by_cases hd : d < 0
  · rw [decide_eq_true hd]; exact ⟨_, rfl⟩
  by_cases hd2 : d ≥ 64
  · rw [decide_eq_false hd, decide_eq_true hd2]; exact ⟨_, rfl⟩
  rw [decide_eq_false hd, decide_eq_false hd2, decide_eq_true (show 0 ≤ d by omega)]
  cases decide (op = 96) <;> cases decide (op = 112) <;> cases decide (op = 192) <;> exact ⟨_, rfl⟩
theorem s26f_some (op : Int) (x : Tn.den) (d : Int) : ∃ r, S26f op x d = some r := by
  unfold S26f
  by_cases hd : d < 0
  · rw [decide_eq_true hd]; exact ⟨_, rfl⟩
  by_cases hd2 : d ≥ 32
  · rw [decide_eq_false hd, decide_eq_true hd2]; exact ⟨_, rfl⟩
  rw [decide_eq_false hd, decide_eq_false hd2, decide_eq_true (show 0 ≤ d by omega)]
  cases decide (op = 96) <;> cases decide (op = 112) <;> cases decide (op = 192) <;> exact ⟨_, rfl⟩
theorem nn_wrap (d : Int) : Q7a.nn (IntKind.wrap .u64 d) = true := decide_eq_true (inR_wrap d).1
theorem s27t_some (op : Int) (x : Tn.den) (d : Int) : ∃ r, S27t Q7a op x d = some r := by
  unfold S27t
  rw [nn_wrap]
  cases decide (op = 96) <;> cases decide (op = 112) <;> cases decide (op = 192) <;> cases decide (d < 0) <;> cases decide (d > 63) <;> exact ⟨_, rfl⟩
theorem s27f_some (op : Int) (x : Tn.den) (d : Int) : ∃ r, S27f Q7a op x d = some r := by
  unfold S27f
  rw [nn_wrap]
  cases decide (op = 96) <;> cases decide (op = 112) <;> cases decide (op = 192) <;> cases decide (d < 0) <;> cases decide (d > 31) <;> exact ⟨_, rfl⟩
theorem p46 : ∀ args v, G_46 fSh (fun d => decide (0 ≤ d)) args = some (v, true) → PureOK Try.prog 46 args v := by
  intro args v h; unfold G_46 at h; split at h
  · rename_i op n d w
    simp only [Option.some.injEq, Prod.mk.injEq] at h
    obtain ⟨rfl, h⟩ := h
    have hs := sh_some op n d w (of_decide_eq_true h)
    refine fnT_pure Try.tabOK K0_ok mix Try.func46 (lf := 100) ?_
    rw [← hs]
    cases w
    · exact t46f op n d
    · exact t46t op n d
  · cases h
theorem K7a_ok : KOK Try.prog (K7a Q7a) := KX_ok Try.tabOK Try.FOK (KOK.cons Try.call46 (SmOK.pSb p46) KOK.nil) mix 10
theorem p26 : ∀ args v, G_sh fShf args = some v → PureOK Try.prog 26 args v := by
  intro args v h; unfold G_sh at h; split at h
  · rename_i op x d w
    cases h
    refine fnT_pure Try.tabOK K0_ok mix Try.func26 (lf := 100) ?_
    cases w
    · obtain ⟨r, hr⟩ := s26f_some op x d
      exact (t26f op x d).trans (by unfold fShf; rw [cond_false, hr]; rfl)
    · obtain ⟨r, hr⟩ := s26t_some op x d
      exact (t26t op x d).trans (by unfold fShf; rw [cond_true, hr]; rfl)
  · cases h
theorem p27 : ∀ args v, G_sh fRShf args = some v → PureOK Try.prog 27 args v := by
  intro args v h; unfold G_sh at h; split at h
  · rename_i op x d w
    cases h
    refine fnT_pure Try.tabOK K7a_ok mix Try.func27 (lf := 100) ?_
    cases w
    · obtain ⟨r, hr⟩ := s27f_some op x d
      exact (t27f Q7a op x d).trans (by unfold fRShf; rw [cond_false, hr]; rfl)
    · obtain ⟨r, hr⟩ := s27t_some op x d
      exact (t27t Q7a op x d).trans (by unfold fRShf; rw [cond_true, hr]; rfl)
  · cases h
theorem K7_ok : KOK Try.prog (K7 Q7) := KX_ok Try.tabOK Try.FOK
  (KOK.cons Try.call12 (.pS p12) (KOK.cons Try.call9 (.pS p9) (KOK.cons Try.call26 (.pS p26) (KOK.cons Try.call27 (.pS p27) (KOK.cons Try.call28 (.pS p28) (KOK.cons Try.call29 (.pS p29) KOK.nil)))))) mix 10
theorem shf_same (op : Int) (x : Tn.den) (d : Int) (w : Bool) (h1 : InR x.1) (h2 : InR x.2.1) : fShf op x d w = fRShf op x d w := by
  unfold fShf fRShf
  cases w
  · obtain ⟨r, e1, e2⟩ := shf_eq_f op x d h1 h2; rw [cond_false, cond_false, e1, e2]
  · obtain ⟨r, e1, e2⟩ := shf_eq_t op x d h1 h2; rw [cond_true, cond_true, e1, e2]
theorem cast_same (x : Tn.den) (n : Int) (h : InR x.1 ∧ InR x.2.1) : fCast x n = fRCast x n := (cast_eq x n h).2.2
theorem l7_true (op : Int) (x : Tn.den) (n : List Int) (hx : InR x.2.1) : SL7 Q7 op x n = some true := by
  have h1 : InR (fMay x).1 := inR_iandn _ _
  have h2 : InR (fMay x).2.1 := hx
  unfold SL7
  rw [show Q7.may = fMay from rfl, show Q7.shf = fShf from rfl, show Q7.rshf = fRShf from rfl, show Q7.cast = fCast from rfl, show Q7.rcast = fRCast from rfl]
  rw [shf_same op _ _ true h1 h2, shf_same op _ _ false h1 h2, cast_same _ _ ⟨h1, h2⟩]
  simp only [decide_true, tt_eq, Bool.and_self, cond_true]
theorem tnumShifts_pure (op : Int) (_ : WF (.int .i64) op) (x : Tn.den) (hx : WF Tn x) (n : List Int) (_ : WF (.arr 2 (.int .i64)) n) : PureOK Try.prog 7 [vI op, vT x, ⟨.arr 2 (.int .i64), n⟩] ⟨.bool, true⟩ :=
  fnT_pure Try.tabOK K7_ok mix Try.func7 (lf := 100) ((tL7 Q7 op x n).trans (l7_true op x n (wf_u64 hx.2.1)))
end Go.Proofs
