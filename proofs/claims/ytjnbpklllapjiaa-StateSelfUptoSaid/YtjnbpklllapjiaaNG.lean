import Derived.Test.YtjnbpklllapjiaaNF
import Derived.Test.YtjnbpklllapjiaaGe
namespace Go.Proofs
open Go.GX
set_option linter.unusedVariables false
set_option linter.unusedSimpArgs false
/-! ## Whether two states are the same -/
theorem lp_run2 {α β : Type} {V : α → Option (α ⊕ β)} {st : Nat → α} {bad good : β} {N : Nat} {Q : Nat → Prop}
    (hs : ∀ i, i < N → ∃ g : Bool, V (st i) = some (bif g then .inl (st (i + 1)) else .inr bad) ∧ (g = true ↔ Q i)) (he : V (st N) = some (.inr good)) :
    ∀ n i, i + n = N → ∃ g : Bool, wh V (st i) = some (bif g then good else bad) ∧ (g = true ↔ ∀ j, i ≤ j → j < N → Q j)
  | 0, i, hn => by
    have : i = N := by omega
    subst this
    exact ⟨true, wh_stop he, fun _ j h1 h2 => by omega, fun _ => rfl⟩
  | n + 1, i, hn => by
    obtain ⟨g, hV, hQ⟩ := hs i (by omega)
    cases g with
    | false => exact ⟨false, wh_stop hV, ⟨fun e => (by cases e), fun h => hQ.2 (h i (Nat.le_refl _) (by omega))⟩⟩
    | true =>
      obtain ⟨g2, h1, h2⟩ := lp_run2 hs he n (i + 1) (by omega)
      refine ⟨g2, by rw [wh_next hV]; exact h1, fun e j hj hN => ?_, fun h => h2.2 (fun j hj hN => h j (by omega) hN)⟩
      rcases Nat.lt_or_ge i j with h | h
      · exact h2.1 e j (by omega) hN
      · have : i = j := by omega
        subst this
        exact hQ.1 rfl
theorem list_eq {l m : List Int} (hl : l.length = m.length) : (∀ j, 0 ≤ j → j < l.length → l.getD j 0 = m.getD j 0) ↔ l = m := by
  constructor
  · intro h
    apply List.ext_getElem hl
    intro i h1 h2
    have := h i (Nat.zero_le _) h1
    simpa [List.getD, h1, h2] using this
  · intro h j _ _
    rw [h]
theorem E34_eq {l m : List Int} (hl : l.length ≤ 1048576) : E34 (l, m, ()) = some (decide (l = m)) := by
  show S34 W34_0 Q34_0 l m = _
  unfold S34
  by_cases hlm : l.length = m.length
  · obtain ⟨g, hw, hg⟩ := lp_run2 (V := V34_0) (β := Unit ⊕ (Bool × Unit)) (st := fun i => (l, m, ((l.length : Nat) : Int), (i : Int), ())) (bad := Sum.inr (false, ())) (good := Sum.inl ()) (N := l.length) (Q := fun i => l.getD i 0 = m.getD i 0)
      (fun i hi => by
        refine ⟨decide (l.getD i 0 = m.getD i 0), ?_, decide_eq_true_iff⟩
        show R34_0 _ _ l m ((l.length : Nat) : Int) (i : Int) = _
        unfold R34_0
        have e1 : IntKind.wrap .i64 ((i : Int) + 1) = ((i + 1 : Nat) : Int) := by rw [wi64 (by omega)]; omega
        rw [e1, show Int.toNat (i : Int) = i by omega, ← hlm, decide_eq_true (show (i : Int) < ((l.length : Nat) : Int) by omega), decide_eq_true (show 0 ≤ (i : Int) by omega)]
        cases decide (l.getD i 0 = m.getD i 0) <;> rfl)
      (by
        show R34_0 _ _ l m ((l.length : Nat) : Int) ((l.length : Nat) : Int) = _
        unfold R34_0
        rw [decide_eq_false (Int.lt_irrefl _)]; rfl) l.length 0 (by omega)
    have k : Q34_0 (l, m, ((l.length : Nat) : Int), 0, ()) = true := whK_of hw
    have w : W34_0 (l, m, ((l.length : Nat) : Int), 0, ()) = _ := whV_of hw
    have hgd : g = decide (l = m) := by
      rw [Bool.eq_iff_iff, decide_eq_true_iff, hg]
      exact list_eq hlm
    rw [decide_eq_true (show ((l.length : Nat) : Int) = ((m.length : Nat) : Int) by omega), w, k, ← hgd]
    cases g <;> rfl
  · rw [decide_eq_false (show ¬ ((l.length : Nat) : Int) = ((m.length : Nat) : Int) by omega), decide_eq_false (fun e => hlm (by rw [e]))]
    rfl
theorem F34_e {l m : List Int} (hl : l.length ≤ 1048576) : F34 (l, m, ()) = decide (l = m) ∧ G34 (l, m, ()) = true := ofE (E34_eq hl)
def sameV (a b : KD6) : Bool := eqb (.arr 11 KT18) a.1 b.1 && (eqb (.arr 64 KT20) a.2.1 b.2.1 && (decide (a.2.2.1 = b.2.2.1) && (decide (a.2.2.2.2.1 = b.2.2.2.2.1) && decide (a.2.2.2.1 = b.2.2.2.1))))
theorem E11_eq {a b : KD6} (hl : a.2.2.2.1.length ≤ 1048576) : E11 (a, b, ()) = some (sameV a b) := by
  show S11 F34 G34 a b = _
  unfold S11 sameV
  rw [(F34_e hl).1, (F34_e hl).2]
  cases eqb (.arr 11 KT18) a.1 b.1
  · rfl
  · cases eqb (.arr 64 KT20) a.2.1 b.2.1
    · rfl
    · cases decide (a.2.2.1 = b.2.2.1)
      · rfl
      · cases decide (a.2.2.2.2.1 = b.2.2.2.2.1) <;> rfl
theorem E12_eq {a b : KD6} (hl : a.2.2.2.1.length ≤ 1048576) : E12 (a, b, ()) = some (sameV a b) := by
  show S12 W12_0 Q12_0 a b = _
  unfold S12 sameV
  by_cases hlm : a.2.2.2.1.length = b.2.2.2.1.length
  · obtain ⟨g, hw, hg⟩ := lp_run2 (V := V12_0) (β := Unit ⊕ (Bool × Unit)) (st := fun i => ((), (), (i : Int), a, b, ())) (bad := Sum.inr (false, ())) (good := Sum.inl ()) (N := a.2.2.2.1.length) (Q := fun i => a.2.2.2.1.getD i 0 = b.2.2.2.1.getD i 0)
      (fun i hi => by
        refine ⟨decide (a.2.2.2.1.getD i 0 = b.2.2.2.1.getD i 0), ?_, decide_eq_true_iff⟩
        show R12_0 _ _ () () (i : Int) a b = _
        unfold R12_0
        have e1 : IntKind.wrap .i64 ((i : Int) + 1) = ((i + 1 : Nat) : Int) := by rw [wi64 (by omega)]; omega
        rw [e1, show Int.toNat (i : Int) = i by omega, ← hlm, decide_eq_true (show (i : Int) < ((a.2.2.2.1.length : Nat) : Int) by omega), decide_eq_true (show 0 ≤ (i : Int) by omega)]
        cases decide (a.2.2.2.1.getD i 0 = b.2.2.2.1.getD i 0) <;> rfl)
      (by
        show R12_0 _ _ () () ((a.2.2.2.1.length : Nat) : Int) a b = _
        unfold R12_0
        rw [decide_eq_false (Int.lt_irrefl _)]; rfl) a.2.2.2.1.length 0 (by omega)
    have k : Q12_0 ((), (), 0, a, b, ()) = true := whK_of hw
    have w : W12_0 ((), (), 0, a, b, ()) = _ := whV_of hw
    have hgd : g = decide (a.2.2.2.1 = b.2.2.2.1) := by
      rw [Bool.eq_iff_iff, decide_eq_true_iff, hg]
      exact list_eq hlm
    rw [decide_eq_true (show ((a.2.2.2.1.length : Nat) : Int) = ((b.2.2.2.1.length : Nat) : Int) by omega), w, k, ← hgd]
    cases eqb (.arr 11 KT18) a.1 b.1
    · rfl
    · cases eqb (.arr 64 KT20) a.2.1 b.2.1
      · rfl
      · cases decide (a.2.2.1 = b.2.2.1)
        · rfl
        · cases decide (a.2.2.2.2.1 = b.2.2.2.2.1)
          · rfl
          · cases g <;> rfl
  · rw [decide_eq_false (show ¬ ((a.2.2.2.1.length : Nat) : Int) = ((b.2.2.2.1.length : Nat) : Int) by omega), decide_eq_false (show ¬ a.2.2.2.1 = b.2.2.2.1 from fun e => hlm (by rw [e]))]
    simp
theorem F11_e {a b : KD6} (hl : a.2.2.2.1.length ≤ 1048576) : F11 (a, b, ()) = sameV a b ∧ G11 (a, b, ()) = true := ofE (E11_eq hl)
theorem F12_e {a b : KD6} (hl : a.2.2.2.1.length ≤ 1048576) : F12 (a, b, ()) = sameV a b ∧ G12 (a, b, ()) = true := ofE (E12_eq hl)
theorem eqb_self : ∀ (t : Ty) (x : t.den), eqb t x x = true
  | .bool, x => by simp [eqb]
  | .int _, x => by simp [eqb]
  | .str, x => by simp [eqb]
  | .pair a b, x => by simp [eqb, eqb_self a, eqb_self b]
  | .arr n e, x => by simp [eqb, eqb_self e]
  | .ptr, _ | .slice, _ | .func, _ | .iface, _ | .map, _ | .vsl _, _ | .vptr _, _ | .unit, _ | .tnil, _ | .tup _ _, _ => rfl
theorem sameV_self (a : KD6) : sameV a a = true := by
  unfold sameV
  rw [eqb_self, eqb_self, decide_eq_true rfl, decide_eq_true rfl, decide_eq_true rfl]; rfl
/-! ## The beginning, a copy -/
theorem F35_e {v : Int} (h : InR v) : F35 (v, ()) = cns v ∧ G35 (v, ()) = true := F35_eq h
theorem F26_e (v : Int) : F26 (v, ()) = cns v ∧ G26 (v, ()) = true := ⟨rfl, rfl⟩
theorem F13_e : ∃ z, F13 () = z ∧ G13 () = true ∧ F14 () = z ∧ G14 () = true ∧ z.2.2.2.1.length ≤ 1048576 := by
  have a0 := F35_e inR0
  have a1 := F35_e (v := 512) (by unfold InR; omega)
  have hE : E13 () = E14 () := by
    show S13 F35 G35 = S14 F26 G26
    unfold S13 S14
    rw [a0.1, a0.2, a1.1, a1.2, (F26_e 0).1, (F26_e 0).2, (F26_e 512).1, (F26_e 512).2]
  have h14 : ∃ z, E14 () = some z ∧ z.2.2.2.1.length ≤ 1048576 := ⟨_, rfl, Nat.zero_le _⟩
  obtain ⟨z, h, hl⟩ := h14
  have h13 := hE.trans h
  refine ⟨z, ?_, ?_, ?_, ?_, hl⟩
  · show (E13 ()).getD _ = _; rw [h13]; rfl
  · show (E13 ()).isSome = true; rw [h13]; rfl
  · show (E14 ()).getD _ = _; rw [h]; rfl
  · show (E14 ()).isSome = true; rw [h]; rfl
theorem E15_eq {a : KD6} (hl : a.2.2.2.1.length ≤ 1048576) : E15 (a, ()) = some a := by
  have hg : G36 (a.2.2.2.1, ()) = true := decide_eq_true (by show a.2.2.2.1.length * 8 ≤ _; omega)
  show S15 F36 G36 a = _
  unfold S15
  rw [hg]
  rfl
theorem F15_e {a : KD6} (hl : a.2.2.2.1.length ≤ 1048576) : F15 (a, ()) = a ∧ G15 (a, ()) = true := ofE (E15_eq hl)
/-! ## The law -/
theorem inR_wf {a : Int} (h : (Lit.int .u64 a).wf = true) : InR a := wf_u64 h
theorem getD_lt' {α : Type} {d : α} {l : List α} {i : Nat} (h : i < l.length) : l.getD i d = l[i] := by simp [List.getD, h]
theorem RS_of {s : Sc} (h : WFv (.pair (.pair (.int .u64) (.pair (.int .u64) .unit)) (.pair (.int .u64) (.pair (.int .u64) .unit))) s) : RS s :=
  ⟨⟨inR_wf h.1.1, inR_wf h.1.2.1⟩, inR_wf h.2.1, inR_wf h.2.2.1⟩
theorem regRS {a : KD6} (w : WFv KT27 a) {i : Nat} (hi : i < 11) : RS (a.1.getD i dR).2.1 := by
  have hl : i < a.1.length := by rw [w.1.1]; exact hi
  rw [getD_lt' hl]
  exact RS_of (w.1.2 _ (List.getElem_mem hl)).2.1
theorem slotRS {a : KD6} (w : WFv KT27 a) {i : Nat} (hi : i < 64) : RS (a.2.1.getD i dS).2.2.1.2.1 := by
  have hl : i < a.2.1.length := by rw [w.2.1.1]; exact hi
  rw [getD_lt' hl]
  exact RS_of (w.2.1.2 _ (List.getElem_mem hl)).2.2.1.2.1
theorem OkS_of {a : KD6} (w : WFv KT27 a) (hl : a.2.2.2.1.length ≤ 1048576) (hk : ∀ i, i < 64 → 0 ≤ (a.2.1.getD i dS).2.1 ∧ (a.2.1.getD i dS).2.1 ≤ 255) : OkS a :=
  ⟨fun i hi => (regRS w hi).1.2, fun i hi => ⟨hk i hi, (slotRS w hi).1.2⟩, hl⟩
theorem E3_eq {a b : KD6} (wa : WFv KT27 a) (wb : WFv KT27 b) (ha : a.2.2.2.1.length ≤ 1048576) (hb : b.2.2.2.1.length ≤ 1048576) : E3 (a, b, ()) = some true := by
  obtain ⟨g7a, q7a⟩ := F7_t a ha
  obtain ⟨g7b, q7b⟩ := F7_t b hb
  have a8 : F8 () = true ∧ G8 () = true := ⟨rfl, rfl⟩
  show S3 F7 G7 F8 G8 F9 G9 F10 G10 F11 G11 F12 G12 F13 G13 F14 G14 F15 G15 a b = _
  unfold S3
  rw [g7a, g7b, a8.1, a8.2]
  cases h7a : F7 (a, ()) with
  | false => rfl
  | true =>
    cases h7b : F7 (b, ()) with
    | false => rfl
    | true =>
      have oa := OkS_of wa ha (q7a h7a)
      have ob := OkS_of wb hb (q7b h7b)
      obtain ⟨z, z1, z2, z3, z4, z5⟩ := F13_e
      rw [(F9_e ha).1, (F9_e ha).2, (F10_e oa ob).1, (F10_e oa ob).2, (F11_e ha).1, (F11_e ha).2, (F12_e ha).1, (F12_e ha).2, (F15_e ha).1, (F15_e ha).2, z1, z2, z3, z4, (F12_e z5).1, (F12_e z5).2, (F12_e ha).1, (F12_e ha).2, sameV_self, sameV_self]
      simp [tt_eq]
theorem stateCovers_pure (x0 : KD6) (w0 : WFv KT27 x0) (s0 : SZ 1048576 KT27 x0) (x1 : KD6) (w1 : WFv KT27 x1) (s1 : SZ 1048576 KT27 x1) :
    PureOK Try.prog 3 [⟨KT27, x0⟩, ⟨KT27, x1⟩] ⟨.bool, true⟩ := by
  have h : F3 (x0, x1, ()) = true ∧ G3 (x0, x1, ()) = true := ofE (E3_eq w0 w1 s0.2.2.2.1.1 s1.2.2.2.1.1)
  have := p3 (x0, x1, ()) h.2
  rw [h.1] at this
  exact this
end Go.Proofs
