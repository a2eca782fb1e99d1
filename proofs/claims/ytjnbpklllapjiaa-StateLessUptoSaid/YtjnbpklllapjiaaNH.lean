import Derived.Test.YtjnbpklllapjiaaNG
namespace Go.Proofs
open Go.GX
set_option linter.unusedVariables false
set_option linter.unusedSimpArgs false
/-! ## What is known less covers what is known -/
def idP (P : PL) : Prop := ∀ p ∈ P, p.1 = p.2
theorem tgo_id {P : PL} (h : idP P) (x : Int) : (tgo P x x).1 = true ∧ idP (tgo P x x).2 := by
  cases hf : P.find? (hit x x) with
  | some p =>
    rw [tgo_some hf]
    have hp := h p (List.mem_of_find?_eq_some hf)
    have hh := hit_t.1 (List.find?_some hf)
    have h1 : p.1 = x := by rcases hh with h | h; exact h; rw [hp]; exact h
    have h2 : p.2 = x := by rw [← hp]; exact h1
    exact ⟨by rw [decide_eq_true h1, decide_eq_true h2]; rfl, h⟩
  | none =>
    have hn : ∀ p ∈ P, ¬ p.1 = x ∧ ¬ p.2 = x := fun p hp => hit_f.1 (by simpa using List.find?_eq_none.1 hf p hp)
    rw [tgo_none hn]
    refine ⟨rfl, fun p hp => ?_⟩
    rcases List.mem_append.1 hp with hp | hp
    · exact h p hp
    · simp at hp; subst hp; rfl
def okR (a b : Rg) : Prop := a.1 = 0 ∨ (alike a b = true ∧ a.2.2.2.1 = b.2.2.2.1)
theorem cv_id {a b : Rg} (h : okR a b) {P : PL} (hP : idP P) : (cv a b P).1 = true ∧ idP (cv a b P).2 := by
  unfold cv
  rcases h with h | ⟨h1, h2⟩
  · rw [decide_eq_true h]; exact ⟨rfl, hP⟩
  · cases decide (a.1 = 0)
    · rw [h1, h2]
      cases held a.1
      · exact ⟨rfl, hP⟩
      · exact tgo_id hP _
    · exact ⟨rfl, hP⟩
theorem cv_inv {r : Rg} {P : PL} (h : (cv r r P).1 = true) : okR r r := by
  unfold cv at h
  by_cases h0 : r.1 = 0
  · exact .inl h0
  · rw [decide_eq_false h0] at h
    cases h1 : alike r r with
    | false => rw [h1] at h; cases h
    | true => exact .inr ⟨h1, rfl⟩
theorem sv_id {x : Sl} {P0 P : PL} (h : (sv x x P0).1 = true) (hP : idP P) : (sv x x P).1 = true ∧ idP (sv x x P).2 := by
  unfold sv at h ⊢
  cases h0 : decide (x.1 = 0)
  · rw [h0] at h
    cases h1 : decide (x.1 = 1)
    · rw [h1] at h
      cases h2 : decide (x.1 = 2)
      · rw [h2] at h; cases h
      · rw [h2] at h
        exact cv_id (cv_inv h) hP
    · rw [h1] at h
      exact ⟨h, hP⟩
  · exact ⟨rfl, hP⟩
theorem fo_id {f : Nat → PL → Bool × PL} : ∀ (n i : Nat) {P : PL}, (∀ j, i ≤ j → j < i + n → ∀ P, idP P → (f j P).1 = true ∧ idP (f j P).2) → idP P → (fo f n i P).1 = true ∧ idP (fo f n i P).2
  | 0, i, P, _, hP => ⟨rfl, hP⟩
  | n + 1, i, P, h, hP => by
    obtain ⟨h1, h2⟩ := h i (Nat.le_refl _) (by omega) P hP
    unfold fo
    rw [h1]
    exact fo_id n (i + 1) (fun j hj hN => h j (by omega) (by omega)) h2
theorem fo_inv {f : Nat → PL → Bool × PL} : ∀ (n i : Nat) {P : PL}, (fo f n i P).1 = true → ∀ j, i ≤ j → j < i + n → ∃ P, (f j P).1 = true
  | 0, i, P, _, j, h1, h2 => by omega
  | n + 1, i, P, h, j, h1, h2 => by
    unfold fo at h
    cases hf : (f i P).1 with
    | false => rw [hf] at h; cases h
    | true =>
      rw [hf] at h
      rcases Nat.lt_or_ge i j with h3 | h3
      · exact fo_inv n (i + 1) h j (by omega) (by omega)
      · have : i = j := by omega
        subst this
        exact ⟨P, hf⟩
/-- what a state that covers itself says of its parts -/
theorem inV_self {s : KD6} (h : inV s s = true) : (∀ i, i < 11 → okR (s.1.getD i dR) (s.1.getD i dR)) ∧ ∀ i, i < 64 → ∃ P, (sv (s.2.1.getD i dS) (s.2.1.getD i dS) P).1 = true := by
  unfold inV at h
  cases h0 : (fo (f0 s s) 11 0 []).1 with
  | false => rw [h0] at h; cases h
  | true =>
    rw [h0] at h
    simp only [cond_true] at h
    unfold inV1 at h
    cases h1 : (fo (f1 s s) 64 0 (fo (f0 s s) 11 0 []).2).1 with
    | false => rw [h1] at h; cases h
    | true =>
      refine ⟨fun i hi => ?_, fun i hi => ?_⟩
      · obtain ⟨P, hP⟩ := fo_inv 11 0 h0 i (Nat.zero_le _) (by omega)
        exact cv_inv hP
      · exact fo_inv 64 0 h1 i (Nat.zero_le _) (by omega)
theorem inV_less {s t : KD6} (hR : ∀ i, i < 11 → okR (t.1.getD i dR) (s.1.getD i dR)) (hs : t.2.1 = s.2.1) (hS : ∀ i, i < 64 → ∃ P, (sv (s.2.1.getD i dS) (s.2.1.getD i dS) P).1 = true)
    (hr : t.2.2.2.1 = s.2.2.2.1) (hm : t.2.2.1 ≤ s.2.2.1) : inV t s = true := by
  obtain ⟨a1, a2⟩ := fo_id (f := f0 t s) 11 0 (P := []) (fun j _ hj P hP => cv_id (hR j (by omega)) hP) (fun p hp => by cases hp)
  unfold inV
  rw [a1]
  obtain ⟨b1, b2⟩ := fo_id (f := f1 t s) 64 0 (P := (fo (f0 t s) 11 0 []).2) (fun j _ hj P hP => by
    unfold f1
    rw [hs]
    obtain ⟨P0, h0⟩ := hS j (by omega)
    exact sv_id h0 hP) a2
  show inV1 t s _ = true
  unfold inV1
  rw [b1]
  obtain ⟨c1, _⟩ := fo_id (f := f2 t.2.2.2.1 s.2.2.2.1) t.2.2.2.1.length 0 (P := (fo (f1 t s) 64 0 (fo (f0 t s) 11 0 []).2).2) (fun j _ hj P hP => by
    unfold f2
    rw [hr]
    exact tgo_id hP _) b2
  show inV2 t s _ = true
  unfold inV2
  rw [c1, decide_eq_true (by rw [hr]), decide_eq_true hm]
  rfl
theorem F16_e : F16 () = unk ∧ G16 () = true := ⟨rfl, rfl⟩
theorem E5_eq {s : KD6} {n m : Int} (w : WFv KT27 s) (hl : s.2.2.2.1.length ≤ 1048576) : E5 (s, n, m, ()) = some true := by
  obtain ⟨g7, q7⟩ := F7_t s hl
  have a8 : F8 () = true ∧ G8 () = true := ⟨rfl, rfl⟩
  show S5 F7 G7 F8 G8 F9 G9 F10 G10 F15 G15 F16 G16 s n m = _
  unfold S5
  rw [g7, a8.1, a8.2]
  cases h7 : F7 (s, ()) with
  | false => rfl
  | true =>
    have os := OkS_of w hl (q7 h7)
    rw [(F10_e os os).1, (F10_e os os).2]
    cases hi : inV s s with
    | false => rfl
    | true =>
      obtain ⟨hR, hS⟩ := inV_self hi
      rw [(F15_e hl).1, (F15_e hl).2, F16_e.1, F16_e.2]
      obtain ⟨k, hk, hk11⟩ : ∃ k : Nat, Int.tmod (IntKind.wrap .i64 ((Int.tmod n 11) + 11)) 11 = (k : Int) ∧ k < 11 := by
        have b1 : Int.tmod n 11 < 11 := Int.tmod_lt_of_pos _ (by omega)
        have b2 : -11 < Int.tmod n 11 := Int.lt_tmod_of_pos _ (by omega)
        have e1 : IntKind.wrap .i64 ((Int.tmod n 11) + 11) = Int.tmod n 11 + 11 := wi64 (by omega)
        have b3 : Int.tmod (Int.tmod n 11 + 11) 11 < 11 := Int.tmod_lt_of_pos _ (by omega)
        have b4 : 0 ≤ Int.tmod (Int.tmod n 11 + 11) 11 := Int.tmod_nonneg _ (by omega)
        rw [e1]
        refine ⟨(Int.tmod (Int.tmod n 11 + 11) 11).toNat, ?_, ?_⟩ <;> omega
      rw [hk, show Int.toNat (k : Int) = k by omega, decide_eq_true hk11, decide_eq_true (show 0 ≤ (k : Int) by omega), decide_eq_true (show (k : Int) < 11 by omega)]
      have hmin : (if m < s.2.2.1 then m else s.2.2.1) ≤ s.2.2.1 := by split <;> omega
      -- the four states
      have ht0 : ∀ r : Int, r ≤ s.2.2.1 → inV (s.1, (s.2.1, (r, s.2.2.2))) s = true := fun r hr => inV_less hR rfl hS rfl hr
      have ht1 : ∀ r : Int, r ≤ s.2.2.1 → inV (lset dR s.1 k dR, (s.2.1, (r, s.2.2.2))) s = true := fun r hr => inV_less (fun i hi => by
        show okR ((lset dR s.1 k dR).getD i dR) (s.1.getD i dR)
        rw [lset_getD]
        by_cases e : i = k
        · rw [if_pos e]; exact .inl rfl
        · rw [if_neg e]; exact hR i hi) rfl hS rfl hr
      have hu : (s.1.getD k dR).1 = 1 → inV (lset dR s.1 k ((s.1.getD k dR).1, (unk, (s.1.getD k dR).2.2)), s.2) s = true := fun hk1 => inV_less (fun i hi => by
        show okR ((lset dR s.1 k _).getD i dR) (s.1.getD i dR)
        rw [lset_getD]
        by_cases e : i = k
        · rw [if_pos e, e]
          refine .inr ⟨?_, rfl⟩
          unfold alike
          rw [decide_eq_true rfl, decide_eq_true rfl, decide_eq_true rfl]
          show inS unk (s.1.getD k dR).2.1 = true
          exact inS_unk (regRS w (by omega))
        · rw [if_neg e]; exact hR i hi) rfl hS rfl (Int.le_refl _)
      have hss : inV s s = true := hi
      have f9 : ∀ t : KD6, t.2.2.2.1.length ≤ 1048576 → F9 (t, s, ()) = inV t s ∧ G9 (t, s, ()) = true := fun t ht => F9_e ht
      have z0 := f9 (s.1, (s.2.1, ((if m < s.2.2.1 then m else s.2.2.1), s.2.2.2))) hl
      have z1 := f9 (lset dR s.1 k dR, (s.2.1, ((if m < s.2.2.1 then m else s.2.2.1), s.2.2.2))) hl
      have z2 := f9 (lset dR s.1 k ((s.1.getD k dR).1, (unk, (s.1.getD k dR).2.2)), s.2) hl
      have z3 := f9 s hl
      rw [ht0 _ hmin] at z0
      rw [ht1 _ hmin] at z1
      rw [hss] at z3
      by_cases hr0 : ((s.2.2.2.1.length : Nat) : Int) = 0
      · rw [decide_eq_true hr0]
        by_cases hk1 : (s.1.getD k dR).1 = 1
        · rw [decide_eq_true hk1]
          rw [hu hk1] at z2
          simp only [z1, z2]
          rfl
        · rw [decide_eq_false hk1]
          simp only [z1, z3]
          rfl
      · rw [decide_eq_false hr0]
        by_cases hk1 : (s.1.getD k dR).1 = 1
        · rw [decide_eq_true hk1]
          rw [hu hk1] at z2
          simp only [z0, z2]
          rfl
        · rw [decide_eq_false hk1]
          simp only [z0, z3]
          rfl
theorem stateLess_pure (x0 : KD6) (w0 : WFv KT27 x0) (s0 : SZ 1048576 KT27 x0) (x1 : Int) (w1 : WFv (.int .i64) x1) (s1 : SZ 1048576 (.int .i64) x1) (x2 : Int) (w2 : WFv (.int .i64) x2) (s2 : SZ 1048576 (.int .i64) x2) :
    PureOK Try.prog 5 [⟨KT27, x0⟩, ⟨.int .i64, x1⟩, ⟨.int .i64, x2⟩] ⟨.bool, true⟩ := by
  have h : F5 (x0, x1, x2, ()) = true ∧ G5 (x0, x1, x2, ()) = true := ofE (E5_eq w0 s0.2.2.2.1.1)
  have := p5 (x0, x1, x2, ()) h.2
  rw [h.1] at this
  exact this
end Go.Proofs
