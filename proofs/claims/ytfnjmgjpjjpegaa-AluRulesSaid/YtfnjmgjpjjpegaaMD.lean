import Derived.Test.YtfnjmgjpjjpegaaMC
namespace Go.Proofs
open Go.GX
set_option linter.unusedVariables false
set_option linter.unusedSimpArgs false
theorem SmOK.pSb {P : Program} {f : Nat} {g : List V → Option (V × Bool)} (h : ∀ args v, g args = some (v, true) → PureOK P f args v) : SmOK P f (Go.Proofs.pSb g) := by
  intro args mem nxt v mem' nxt' hg base φ w xs hm hA
  unfold Go.Proofs.pSb at hg
  cases e : g args with
  | none => rw [e] at hg; cases hg
  | some r =>
    obtain ⟨v', c⟩ := r
    rw [e] at hg
    simp only [Option.some.injEq, Prod.mk.injEq] at hg
    obtain ⟨rfl, rfl, rfl, rfl⟩ := hg
    refine (h args v' e φ w xs hA).mono ?_
    rintro e w' ⟨x, rfl, h1, h2⟩
    exact ⟨φ, x, rfl, Phi.le_refl _, hm.same (Below.same h2 (Nat.le_refl _)) (Nat.le_refl _), h2.mono hm.base, h1⟩
theorem inW_iff {w : Bool} {b : Int} (h : inW w b = true) : (0 ≤ b ∧ b < 18446744073709551616) ∧ (w = false → b < 4294967296) := by
  cases w <;> simp [inW, inU] at h ⊢ <;> omega
theorem div_some (op a b : Int) (s w : Bool) (h : inW w b = true) : fnT (CxA KN) Try.f20 U64 [vI op, vB s, vB w, vU a, vU b] = some (s20 op s w a b) := by
  have hw := inW_iff h
  have hb := hw.1
  have hw := hw.2
  cases s <;> cases w
  · refine (t20ff op a b).trans ?_
    by_cases h0 : b = 0 <;> by_cases h1 : op = 48 <;> by_cases h2 : op = 144 <;> simp [s20, S20ff, tt_eq, h0, h1, h2, eq_comm]
  · refine (t20ft op a b).trans ?_
    by_cases h0 : b = 0 <;> by_cases h1 : op = 48 <;> by_cases h2 : op = 144 <;> simp [s20, S20ft, tt_eq, h0, h1, h2, eq_comm]
  · refine (t20tf op a b).trans ?_
    have z := i32z (b := b) ⟨hb.1, hw rfl⟩
    by_cases h0 : b = 0 <;> by_cases h1 : op = 48 <;> by_cases h2 : op = 144 <;> simp [s20, S20tf, tt_eq, z, h0, h1, h2, eq_comm]
  · refine (t20tt op a b).trans ?_
    have z := i64z hb
    by_cases h0 : b = 0 <;> by_cases h1 : op = 48 <;> by_cases h2 : op = 144 <;> simp [s20, S20tt, tt_eq, z, h0, h1, h2, eq_comm]
theorem rdiv_some (a b : Int) (r s w : Bool) (h : inW w b = true) : fnT (CxA KN) Try.f22 U64 [vB r, vB s, vB w, vU a, vU b] = some (s22 r s w a b) := by
  have hw := inW_iff h
  have hb := hw.1
  have hw := hw.2
  have z := i64z hb
  cases r <;> cases s <;> cases w
  · refine (t22fff a b).trans ?_
    by_cases h0 : b = 0 <;> simp [s22, S22fff, tt_eq, h0]
  · refine (t22fft a b).trans ?_
    by_cases h0 : b = 0 <;> simp [s22, S22fft, tt_eq, h0]
  · refine (t22ftf a b).trans ?_
    have z := i32z (b := b) ⟨hb.1, hw rfl⟩
    by_cases h0 : b = 0 <;> by_cases h1 : IntKind.wrap .i64 (IntKind.wrap .i32 b) = -1 <;> simp [s22, S22ftf, tt_eq, h0, h1, z]
  · refine (t22ftt a b).trans ?_
    by_cases h0 : b = 0 <;> by_cases h1 : IntKind.wrap .i64 b = -1 <;> simp [s22, S22ftt, tt_eq, h0, h1, z]
  · refine (t22tff a b).trans ?_
    by_cases h0 : b = 0 <;> simp [s22, S22tff, tt_eq, h0]
  · refine (t22tft a b).trans ?_
    by_cases h0 : b = 0 <;> simp [s22, S22tft, tt_eq, h0]
  · refine (t22ttf a b).trans ?_
    have z := i32z (b := b) ⟨hb.1, hw rfl⟩
    by_cases h0 : b = 0 <;> by_cases h1 : IntKind.wrap .i64 (IntKind.wrap .i32 b) = -1 <;> simp [s22, S22ttf, tt_eq, h0, h1, z]
  · refine (t22ttt a b).trans ?_
    by_cases h0 : b = 0 <;> by_cases h1 : IntKind.wrap .i64 b = -1 <;> simp [s22, S22ttt, tt_eq, h0, h1, z]
theorem p20 : ∀ args v, g20 inW args = some (v, true) → PureOK Try.prog 20 args v := by
  intro args v h
  unfold g20 at h
  split at h
  · simp only [Option.some.injEq, Prod.mk.injEq] at h
    obtain ⟨rfl, h⟩ := h
    exact fnT_pure Try.tabOK KN_ok mix Try.func20 (div_some _ _ _ _ _ h)
  · cases h
theorem p22 : ∀ args v, g22 inW args = some (v, true) → PureOK Try.prog 22 args v := by
  intro args v h
  unfold g22 at h
  split at h
  · simp only [Option.some.injEq, Prod.mk.injEq] at h
    obtain ⟨rfl, h⟩ := h
    exact fnT_pure Try.tabOK KN_ok mix Try.func22 (rdiv_some _ _ _ _ _ h)
  · cases h
theorem K9_ok : KOK Try.prog (K9 inW) := KX_ok Try.tabOK Try.FOK (KOK.cons Try.call20 (SmOK.pSb p20) (KOK.cons Try.call22 (SmOK.pSb p22) KOK.nil)) mix 10
theorem p9 : ∀ args v, G9 s9 inU2 args = some (v, true) → PureOK Try.prog 9 args v := by
  intro args v h
  unfold G9 at h
  split at h
  · rename_i op w s a b
    simp only [Option.some.injEq, Prod.mk.injEq] at h
    obtain ⟨rfl, h⟩ := h
    obtain ⟨h1, h2⟩ := and_split h
    have hs := (bin_some op w s a b h1 h2).1
    refine fnT_pure Try.tabOK K9_ok mix Try.func9 (lf := 100) ?_
    rw [← hs]
    cases w <;> cases s
    · exact t9ff inW op a b
    · exact t9ft inW op a b
    · exact t9tf inW op a b
    · exact t9tt inW op a b
  · cases h
theorem p10 : ∀ args v, G9 s10 inU2 args = some (v, true) → PureOK Try.prog 10 args v := by
  intro args v h
  unfold G9 at h
  split at h
  · rename_i op w s a b
    simp only [Option.some.injEq, Prod.mk.injEq] at h
    obtain ⟨rfl, h⟩ := h
    obtain ⟨h1, h2⟩ := and_split h
    have hs := (bin_some op w s a b h1 h2).2.1
    refine fnT_pure Try.tabOK K9_ok mix Try.func10 (lf := 100) ?_
    rw [← hs]
    cases w <;> cases s
    · exact t10ff inW op a b
    · exact t10ft inW op a b
    · exact t10tf inW op a b
    · exact t10tt inW op a b
  · cases h
end Go.Proofs
