import Derived.Test.YtkhblganljemeaaNE
namespace Go.Proofs
open Go.GX
set_option linter.unusedVariables false
set_option linter.unusedSimpArgs false
/-! ## Nothing of a pointer is read as a number -/
def Kf (m : Nat) : Nat → Int
  | 0 => 0
  | n + 1 => ior .i64 (Kf m n) (ishl .i64 1 (((m + n) % 8 : Nat) : Int))
def kfAll : Bool := (List.range 8).all fun m => (List.range 9).all fun n => (List.range 8).all fun f => !(decide (m + n ≤ 8)) || (decide (hbit (Kf m n) f = 1) == (decide (m ≤ f) && decide (f < m + n)))
theorem kfAll_ok : kfAll = true := by kernel_rfl
theorem kf_bit {m n f : Nat} (hm : m < 8) (hf : f < 8) (h : m + n ≤ 8) (hb : hbit (Kf m n) f = 1) : m ≤ f ∧ f < m + n := by
  have h0 := kfAll_ok
  unfold kfAll at h0
  have h1 := List.all_eq_true.1 (List.all_eq_true.1 (List.all_eq_true.1 h0 m (List.mem_range.2 hm)) n (List.mem_range.2 (by omega))) f (List.mem_range.2 hf)
  rw [decide_eq_true h, hb, decide_eq_true rfl] at h1
  simpa using h1
theorem putN_slot {q m : Nat} {X : Sl} (hX : kn X = 0) : ∀ n, m + n ≤ 8 →
    (∀ i, i ≠ q → (putN (lset dS [] q X) (8 * q + m) n).getD i dS = dS) ∧ (n = 0 ∨ (putN (lset dS [] q X) (8 * q + m) n).getD q dS = (1, (Kf m n, (dR, ())))) ∧ kn ((putN (lset dS [] q X) (8 * q + m) n).getD q dS) = Kf m n
  | 0, h => by
    refine ⟨fun i hi => ?_, .inl rfl, ?_⟩
    · show (lset dS [] q X).getD i dS = dS
      rw [lset_getD, if_neg hi]; rfl
    · show kn ((lset dS [] q X).getD q dS) = 0
      rw [lset_get]; exact hX
  | n + 1, h => by
    obtain ⟨h1, h2, h3⟩ := putN_slot (q := q) (m := m) hX n (by omega)
    have e1 : (8 * q + m + n) / 8 = q := by omega
    have e2 : (8 * q + m + n) % 8 = (m + n) % 8 := by omega
    have hs : (putN (lset dS [] q X) (8 * q + m) (n + 1)).getD q dS = (1, (Kf m (n + 1), (dR, ()))) := by
      show (putB (putN (lset dS [] q X) (8 * q + m) n) (8 * q + m + n)).getD q dS = _
      unfold putB
      rw [e1, e2, lset_get, h3]
      rfl
    refine ⟨fun i hi => ?_, .inr hs, ?_⟩
    · show (putB (putN (lset dS [] q X) (8 * q + m) n) (8 * q + m + n)).getD i dS = dS
      unfold putB
      rw [e1, lset_getD, if_neg hi]
      exact h1 i hi
    · rw [hs]; rfl
theorem fst_none {f : Nat → Option Int} : ∀ {n o : Nat}, fstB f o n = none → ∀ i, i < n → f (o + i) = none
  | 0, o, h, i, hi => by omega
  | n + 1, o, h, i, hi => by
    unfold fstB at h
    cases hf : f o with
    | some c => rw [hf] at h; cases h
    | none =>
      rw [hf] at h
      cases i with
      | zero => exact hf
      | succ i => have := fst_none h i (by omega); rw [show o + (i + 1) = o + 1 + i by omega]; exact this
theorem F14_e : F14 () = ([dR, (2, (cns 0, (0, (0, (0, ()))))), dR, dR, dR, dR, dR, dR, dR, dR, (3, (cns 512, (0, (0, (0, ())))))], ([], (0, ([], (0, ()))))) ∧ G14 () = true := ofE (by
  show S14 F16 G16 = _
  unfold S14
  rw [(F16_eq 512).1, (F16_eq 512).2, (F16_eq 0).1, (F16_eq 0).2]
  rfl)
theorem F15_e (c : Sc) : F15 (c, ()) = (1, (c, (0, (0, (0, ()))))) ∧ G15 (c, ()) = true := ⟨rfl, rfl⟩
theorem E5_eq (a0 : Int) (a1 a2 : List Int) : E5 (a0, a1, a2, ()) = some true := by
  show S5 F8 G8 F9 G9 F11 G11 F14 G14 F15 G15 F16 G16 a0 a1 a2 = _
  unfold S5
  have f8 : F8 () = true ∧ G8 () = true := ⟨rfl, rfl⟩
  obtain ⟨q, hq, eq⟩ := slot_mod a0 (m := 63) (by omega) (by omega)
  have eq : Int.tmod (IntKind.wrap .i64 (Int.tmod a0 63 + 63)) 63 = (q : Int) := eq
  obtain ⟨m, hm, em⟩ := slot_mod (a1.getD 0 0) (m := 8) (by omega) (by omega)
  have em : Int.tmod (IntKind.wrap .i64 (Int.tmod (a1.getD 0 0) 8 + 8)) 8 = (m : Int) := em
  obtain ⟨f, hf, ef⟩ := slot_mod (a2.getD 0 0) (m := 8) (by omega) (by omega)
  have ef : Int.tmod (IntKind.wrap .i64 (Int.tmod (a2.getD 0 0) 8 + 8)) 8 = (f : Int) := ef
  rw [eq, em, ef, show IntKind.wrap .i64 (8 * (q : Int)) = ((8 * q : Nat) : Int) by rw [wi64 (by omega)]; omega,
    show IntKind.wrap .i64 (((8 * q : Nat) : Int) + (m : Int)) = ((8 * q + m : Nat) : Int) by rw [wi64 (by omega)]; omega, show IntKind.wrap .i64 (((8 * q : Nat) : Int) + (f : Int)) = ((8 * q + f : Nat) : Int) by rw [wi64 (by omega)]; omega]
  rw [F14_e.1, F14_e.2, (F16_eq 0).1, (F16_eq 0).2, (F15_e _).1, (F15_e _).2, f8.1, f8.2]
  generalize hbg : (([dR, (2, (cns 0, (0, (0, (0, ()))))), dR, dR, dR, dR, dR, dR, dR, dR, (3, (cns 512, (0, (0, (0, ())))))], ([], (0, ([], (0, ()))))) : KD6) = bg
  have hb1 : bg.1.getD 1 (0, (((0, (0, ())), (0, (0, ()))), (0, (0, (0, ()))))) = ((2, (cns 0, (0, (0, (0, ()))))) : Rg) := by rw [← hbg]; rfl
  have hb2 : bg.2.1 = [] := by rw [← hbg]
  have hbl : bg.2.2.2.1.length ≤ 1048576 := by rw [← hbg]; exact Nat.zero_le _
  clear hbg
  rw [hb1]
  generalize hr1 : ((2, (cns 0, (0, (0, (0, ()))))) : Rg) = r1
  have hk1 : r1.1 = 2 := by rw [← hr1]
  clear hr1
  generalize hr0 : ((1, (cns 0, (0, (0, (0, ()))))) : Rg) = r0
  have hk0 : r0.1 = 1 := by rw [← hr0]
  clear hr0
  obtain ⟨b1, b2⟩ : F11 (bg, ((8 * q : Nat) : Int), 8, r1, ()) = _ ∧ G11 (bg, ((8 * q : Nat) : Int), 8, r1, ()) = true := ofE (E11_eq (s := bg) (p := 8 * q) (k := 8) (r := r1) hbl (by omega) (by omega))
  rw [wst_whole (by omega), hb2] at b1
  rw [b1, b2]
  generalize hX : ((2, (0, (r1, ()))) : Sl) = X
  have hkX : kn X = 0 := by
    rw [← hX]
    unfold kn
    rw [decide_eq_true (show ((2, (0, (r1, ()))) : Sl).1 = 2 from rfl), decide_eq_false (show ¬ ((2, (0, (r1, ()))) : Sl).2.2.1.1 = 1 by show ¬ r1.1 = 1; omega)]
    rfl
  clear hX
  generalize hn : a1.getD 1 0 = n
  generalize hk : a2.getD 1 0 = bk
  by_cases h1 : n < 1
  · rw [decide_eq_true h1]; rfl
  rw [decide_eq_false h1]
  by_cases h7 : n > 7
  · rw [decide_eq_true h7]; rfl
  rw [decide_eq_false h7]
  obtain ⟨j, rfl⟩ : ∃ j : Nat, n = (j : Int) := ⟨n.toNat, by omega⟩
  have ew : IntKind.wrap .i64 ((m : Int) + (j : Int)) = ((m + j : Nat) : Int) := by rw [wi64 (by omega)]; omega
  rw [ew]
  by_cases h8 : ((m + j : Nat) : Int) > 8
  · rw [decide_eq_true h8]; rfl
  rw [decide_eq_false h8]
  by_cases hj : j = 1 ∨ j = 2 ∨ j = 4
  · obtain ⟨c1, c2⟩ : F11 (S1 bg (lset dS [] q X), ((8 * q + m : Nat) : Int), (j : Int), r0, ()) = _ ∧ G11 (S1 bg (lset dS [] q X), ((8 * q + m : Nat) : Int), (j : Int), r0, ()) = true :=
      ofE (E11_eq (s := S1 bg (lset dS [] q X)) (p := 8 * q + m) (k := j) (r := r0) hbl (by omega) (by omega))
    have hw : wst (S1 bg (lset dS [] q X)) (8 * q + m) j r0 = (S1 bg (putN (lset dS [] q X) (8 * q + m) j), 0, ()) := by
      unfold wst whl
      rw [decide_eq_false (show ¬ r0.1 = 0 by omega), decide_eq_false (show ¬ j = 8 by omega), decide_eq_true hk0]
      rfl
    rw [hw] at c1
    rw [c1, c2]
    obtain ⟨p1, p2, p3⟩ := putN_slot (q := q) (m := m) hkX j (by omega)
    have p2 : (putN (lset dS [] q X) (8 * q + m) j).getD q dS = (1, (Kf m j, (dR, ()))) := by
      rcases p2 with h | h
      · omega
      · exact h
    generalize hlw : putN (lset dS [] q X) (8 * q + m) j = l at p1 p2
    generalize ht : S1 bg l = t
    have htl : t.2.1 = l := by rw [← ht]
    clear ht
    show (bif !decide ((F9 (t, ((8 * q + f : Nat) : Int), bk, ())).2.1 = 0) then _ else _) = _
    cases hz : szd ((8 * q + f : Nat) : Int) bk
    · obtain ⟨d1, d2⟩ : F9 (t, ((8 * q + f : Nat) : Int), bk, ()) = _ ∧ G9 (t, ((8 * q + f : Nat) : Int), bk, ()) = true := ofE (E9_bad hz)
      rw [d1, d2]; rfl
    · obtain ⟨p, k, hp, rfl, z1, z2⟩ := szd_spec hz
      have hp : p = 8 * q + f := by omega
      subst hp
      obtain ⟨d1, d2⟩ : F9 (t, ((8 * q + f : Nat) : Int), (k : Int), ()) = _ ∧ G9 (t, ((8 * q + f : Nat) : Int), (k : Int), ()) = true := ofE (E9_eq (s := t) z1 z2)
      have e8 : (8 * q + f) / 8 = q := by omega
      have hst : stk t (8 * q + f) k = rdB t (8 * q + f) k := by
        unfold stk
        rw [show slt t (8 * q + f) = (1, (Kf m j, (dR, ()))) by show t.2.1.getD ((8 * q + f) / 8) dS = _; rw [e8, htl, p2], decide_eq_false (show ¬ ((1, (Kf m j, (dR, ()))) : Sl).1 = 2 by show ¬ (1 : Int) = 2; omega), Bool.and_false]
        rfl
      rw [hst] at d1
      unfold rdB at d1
      cases hfb : fstB (hl t) (8 * q + f) k with
      | some c =>
        rw [hfb] at d1
        rw [d1, d2]
        rcases fst_c hfb with rfl | rfl <;> rfl
      | none =>
        rw [hfb] at d1
        rw [d1, d2]
        have hno := fst_none hfb
        have hin : ∀ g, g < 8 → hl t (8 * q + g) = none → m ≤ g ∧ g < m + j := by
          intro g hg hh
          have hh : hld (t.2.1.getD ((8 * q + g) / 8) dS) (8 * q + g) = none := hh
          rw [show (8 * q + g) / 8 = q by omega, htl, p2] at hh
          unfold hld at hh
          rw [decide_eq_false (show ¬ ((1, (Kf m j, (dR, ()))) : Sl).1 = 2 by show ¬ (1 : Int) = 2; omega), decide_eq_true (show ((1, (Kf m j, (dR, ()))) : Sl).1 = 1 from rfl)] at hh
          simp only [cond_false, Bool.true_and] at hh
          cases hb : decide (hbit ((1, (Kf m j, (dR, ()))) : Sl).2.1 (8 * q + g) = 1) <;> rw [hb] at hh
          · cases hh
          · have hb := of_decide_eq_true hb
            have e : hbit (Kf m j) (8 * q + g) = hbit (Kf m j) g := by
              unfold hbit
              rw [show (8 * q + g) % 8 = g % 8 by omega]
            exact kf_bit hm hg (by omega) (e ▸ hb)
        have hout : ∀ g, 8 ≤ g → hl t (8 * q + g) ≠ none := by
          intro g hg hh
          have hh : hld (t.2.1.getD ((8 * q + g) / 8) dS) (8 * q + g) = none := hh
          rw [htl, p1 _ (show (8 * q + g) / 8 ≠ q by omega)] at hh
          cases hh
        have i1 := hin f hf (by have := hno 0 (by omega); simpa using this)
        have i2 : f + (k - 1) < 8 ∧ f + (k - 1) < m + j := by
          have h2 := hno (k - 1) (by omega)
          rw [show 8 * q + f + (k - 1) = 8 * q + (f + (k - 1)) by omega] at h2
          rcases Nat.lt_or_ge (f + (k - 1)) 8 with h | h
          · exact ⟨h, (hin _ h h2).2⟩
          · exact absurd h2 (hout _ h)
        rw [show IntKind.wrap .i64 (((m + j : Nat) : Int) - (k : Int)) = ((m + j : Nat) : Int) - (k : Int) by rw [wi64 (by omega)], decide_eq_true (show (f : Int) ≥ (m : Int) by omega), decide_eq_true (show (f : Int) ≤ ((m + j : Nat) : Int) - (k : Int) by omega)]
        rfl
  · have hz : szd ((8 * q + m : Nat) : Int) (j : Int) = false := by
      unfold szd
      rw [decide_eq_false (show ¬ (j : Int) = 1 by omega), decide_eq_false (show ¬ (j : Int) = 2 by omega), decide_eq_false (show ¬ (j : Int) = 4 by omega), decide_eq_false (show ¬ (j : Int) = 8 by omega)]
      rfl
    obtain ⟨c1, c2⟩ : F11 (S1 bg (lset dS [] q X), ((8 * q + m : Nat) : Int), (j : Int), r0, ()) = _ ∧ G11 (S1 bg (lset dS [] q X), ((8 * q + m : Nat) : Int), (j : Int), r0, ()) = true := ofE (E11_bad hz)
    rw [c1, c2, decide_eq_false (show ¬ (j : Int) = 1 by omega), decide_eq_false (show ¬ (j : Int) = 2 by omega), decide_eq_false (show ¬ (j : Int) = 4 by omega)]
    rfl
theorem accessHides_pure (x0 : Int) (w0 : WFv (.int .i64) x0) (x1 : List Int) (w1 : WFv (.arr 2 (.int .i64)) x1) (x2 : List Int) (w2 : WFv (.arr 2 (.int .i64)) x2) :
    PureOK Try.prog 5 [⟨.int .i64, x0⟩, ⟨.arr 2 (.int .i64), x1⟩, ⟨.arr 2 (.int .i64), x2⟩] ⟨.bool, true⟩ := by
  have h : F5 (x0, x1, x2, ()) = true ∧ G5 (x0, x1, x2, ()) = true := ofE (E5_eq x0 x1 x2)
  have := p5 (x0, x1, x2, ()) h.2
  rw [h.1] at this
  exact this
end Go.Proofs
