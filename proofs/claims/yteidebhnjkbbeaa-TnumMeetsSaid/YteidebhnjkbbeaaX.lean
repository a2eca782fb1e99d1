import Derived.Test.YteidebhnjkbbeaaW
namespace Go.Proofs
open Go.GX
set_option linter.unusedVariables false
set_option linter.unusedSimpArgs false
theorem pure_of_fnX {P : Program} {Θ : Tab} {K : Kn} {lf : Nat} (hΘ : TabOK P Θ) (hK : KOK P K) (hmix : P.follows .mixedOrders = true) {fn : Func} {f : Nat} (hf : P.funcs[f]? = some fn) {gs : List Bool} {args : List V} {v : V} {mem : Mem} {nxt : Nat}
    (ha : args.all plainV = true) (hv : plainV v = true) (h : fnX ⟨true, Θ, K, lf, fun _ => none⟩ 2 fn gs args [] 0 = some (v, mem, nxt, true)) : PureOK P f args v := by
  intro φ w xs hA
  let φ0 : Phi := fun _ => none
  have hA0 : AR φ0 args xs := ⟨hA.1, fun i u hi => by
    obtain ⟨x, hx, hr⟩ := hA.2 i u hi
    exact ⟨x, hx, plainV_ok (List.all_eq_true.1 ha u (List.mem_of_getElem? hi)) hr⟩⟩
  have hm : MemRel w.heap.size φ0 [] 0 w := ⟨fun i b hi => (by cases hi), fun i j b b' ph ph' hi => (by cases hi), fun i ph hp => (by cases hp), Nat.le_refl _⟩
  refine (fnX_ok ⟨hΘ, hK, hmix⟩ hf (fun c _ => LOK.none rfl c) h hm hA0).mono ?_
  rintro e w' ⟨ψ, x, rfl, _, _, hb, hr⟩
  exact ⟨x, rfl, plainV_ok hv hr, hb⟩
theorem may_dis (x : Tn.den) (i : Nat) : (bit (fMay x).1 i && bit (fMay x).2.1 i) = false := by
  unfold fMay; simp only [bit_iandn]
  cases bit x.1 i <;> cases bit x.2.1 i <;> rfl
theorem part {A B M H J : Bool} (h : (A && B) = (M && H)) (hj : A = true → J = true) (hk : B = true → J = true) :
    (bif A then B else false) = (A && B) ∧ (bif M then H else false) = (M && H) := by cases A <;> cases M <;> exact ⟨rfl, rfl⟩
theorem mid_eq {lo hi : Int} (h1 : InR lo) (h2 : InR hi) (h : lo ≤ hi) : lo ≤ IntKind.wrap .u64 (lo + IntKind.wrap .u64 (Int.tdiv (IntKind.wrap .u64 (hi - lo)) 2)) ∧ IntKind.wrap .u64 (lo + IntKind.wrap .u64 (Int.tdiv (IntKind.wrap .u64 (hi - lo)) 2)) ≤ hi := by
  unfold InR at h1 h2
  rw [wrap_u64 (hi - lo), show (hi - lo) % 18446744073709551616 = hi - lo from by omega, Int.tdiv_eq_ediv_of_nonneg (by omega), wrap_u64, wrap_u64]
  omega
theorem l6_true (x y : Tn.den) (n : List Int) (hx : InR x.2.1) (hy : InR y.2.1) (hn : ∀ i, InR (n.getD i 0)) : V6 Q5 x y n = true ∧ O6 Q5 x y n = true := by
  have a1 : InR (fMay x).1 := inR_iandn _ _
  have a2 : InR (fMay x).2.1 := hx
  have ilo : InR (if (n.getD 2 0) < (n.getD 0 0) then (n.getD 2 0) else (n.getD 0 0)) := by split; exact hn 2; exact hn 0
  have ihi : InR (if (n.getD 2 0) > (n.getD 0 0) then (n.getD 2 0) else (n.getD 0 0)) := by split; exact hn 2; exact hn 0
  have hle : (if (n.getD 2 0) < (n.getD 0 0) then (n.getD 2 0) else (n.getD 0 0)) ≤ (if (n.getD 2 0) > (n.getD 0 0) then (n.getD 2 0) else (n.getD 0 0)) := by split <;> split <;> omega
  have ulo := inU_iff.2 ilo
  have uhi := inU_iff.2 ihi
  have j1 := in_join (fMay x) (fMay y) a1 a2
  have j2 := in_all (fMay x) a1 a2
  unfold V6 O6
  rw [show Q5.may = fMay from rfl, show Q5.one = fOne from rfl, show Q5.has = fHas from rfl, show Q5.meet = fMeet from rfl, show Q5.join = fJoin from rfl, show Q5.isin = fIn from rfl, show Q5.off = fOf from rfl, show Q5.iu = inU from rfl]
  generalize (if (n.getD 2 0) < (n.getD 0 0) then (n.getD 2 0) else (n.getD 0 0)) = lo at *
  generalize (if (n.getD 2 0) > (n.getD 0 0) then (n.getD 2 0) else (n.getD 0 0)) = hi at *
  have m := mid_eq ilo ihi hle
  have o1 := has_of lo hi lo ilo ihi (Int.le_refl _) hle
  have o2 := has_of lo hi hi ilo ihi hle (Int.le_refl _)
  have o3 := has_of lo hi _ ilo ihi m.1 m.2
  have b0 := meet_both (fMay x) (fMay y) (n.getD 0 0) (may_dis x) (may_dis y)
  have b1 := meet_both (fMay x) (fMay y) (fOne (fMay x) (n.getD 1 0)) (may_dis x) (may_dis y)
  have b2 := meet_both (fMay x) (fMay y) (n.getD 2 0) (may_dis x) (may_dis y)
  have l0 := join_l (x := fMay x) (y := fMay y) (n := n.getD 0 0)
  have r0 := join_r (x := fMay x) (y := fMay y) (n := n.getD 0 0)
  have l1 := join_l (x := fMay x) (y := fMay y) (n := fOne (fMay x) (n.getD 1 0))
  have r1 := join_r (x := fMay x) (y := fMay y) (n := fOne (fMay x) (n.getD 1 0))
  have l2 := join_l (x := fMay x) (y := fMay y) (n := n.getD 2 0)
  have r2 := join_r (x := fMay x) (y := fMay y) (n := n.getD 2 0)
  simp only [o1, o2, o3, j1, j2, ulo, uhi, tt_eq, cond_true, cond_false, Bool.and_self, Bool.true_and, Bool.and_true, Bool.or_true, Bool.true_or, Bool.not_true, Bool.not_false, true_and]
  generalize fHas (fMay x) (n.getD 0 0) = A0 at *
  generalize fHas (fMay y) (n.getD 0 0) = B0 at *
  generalize fHas (fMeet (fMay x) (fMay y)).1 (n.getD 0 0) = H0 at *
  generalize fHas (fJoin (fMay x) (fMay y)) (n.getD 0 0) = J0 at *
  generalize fHas (fMay x) (fOne (fMay x) (n.getD 1 0)) = A1 at *
  generalize fHas (fMay y) (fOne (fMay x) (n.getD 1 0)) = B1 at *
  generalize fHas (fMeet (fMay x) (fMay y)).1 (fOne (fMay x) (n.getD 1 0)) = H1 at *
  generalize fHas (fJoin (fMay x) (fMay y)) (fOne (fMay x) (n.getD 1 0)) = J1 at *
  generalize fHas (fMay x) (n.getD 2 0) = A2 at *
  generalize fHas (fMay y) (n.getD 2 0) = B2 at *
  generalize fHas (fMeet (fMay x) (fMay y)).1 (n.getD 2 0) = H2 at *
  generalize fHas (fJoin (fMay x) (fMay y)) (n.getD 2 0) = J2 at *
  generalize (fMeet (fMay x) (fMay y)).2.1 = M at *
  clear o1 o2 o3 j1 j2 ulo uhi m hle ilo ihi a1 a2 hx hy hn
  have e : ∀ {A B H : Bool}, (A && B) = (M && H) → ((bif A then B else false) == (bif M then H else false)) = true := by
    intro A B H h
    rw [show (bif A then B else false) = (A && B) from by cases A <;> rfl, show (bif M then H else false) = (M && H) from by cases M <;> rfl, h]
    exact beq_self_eq_true _
  have f : ∀ {A B J : Bool}, (A = true → J = true) → (B = true → J = true) → (bif (bif A then true else B) then !J else false) = false := by
    intro A B J h1 h2
    cases A <;> cases B <;> cases J <;> simp_all
  simp only [e b0, e b1, e b2, f l0 r0, f l1 r1, f l2 r2, Bool.not_true, Bool.not_false, cond_true, cond_false, Bool.true_and, Bool.and_true, Bool.false_and, Bool.and_false, Bool.true_or, Bool.or_true, Bool.or_false, Bool.false_or]
  clear b0 b1 b2 l0 r0 l1 r1 l2 r2 e f
  revert M
  show ∀ M : Bool, _
  intro M
  cases M <;> cases A0 <;> cases B0 <;> cases A1 <;> cases B1 <;> cases A2 <;> cases B2 <;> rfl
theorem tnumMeets_pure (x : Tn.den) (hx : WF Tn x) (y : Tn.den) (hy : WF Tn y) (n : List Int) (hn : WF (.arr 3 (.int .u64)) n) : PureOK Try.prog 6 [vT x, vT y, ⟨.arr 3 (.int .u64), n⟩] ⟨.bool, true⟩ := by
  have hn' : ∀ i, InR (n.getD i 0) := by
    intro i
    by_cases hi : i < n.length
    · have : n.getD i 0 ∈ n := by simp [List.getD, List.getElem?_eq_getElem hi]
      exact wf_u64 (hn.2 _ this)
    · simp [List.getD, List.getElem?_eq_none (Nat.le_of_not_lt hi)]; exact inR0
  obtain ⟨h1, h2⟩ := l6_true x y n (wf_u64 hx.2.1) (wf_u64 hy.2.1) hn'
  have h := tL6 Q5 x y n
  rw [h1, h2] at h
  exact pure_of_fnX Try.tabOK K5_ok mix Try.func6 rfl rfl h
end Go.Proofs
