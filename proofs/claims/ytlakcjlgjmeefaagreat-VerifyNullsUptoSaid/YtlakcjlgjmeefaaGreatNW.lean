import Derived.Test.YtlakcjlgjmeefaaGreatNV
namespace Go.Proofs.Nu
open Go.GX
set_option linter.unusedVariables false
set_option linter.unusedSimpArgs false
theorem E7_eq {s : KD6} {x : Int} {nl : Bool} (hx : (Lit.int .i64 x).wf = true) (hl : s.2.2.2.1.length ≤ 1048576) : E7 (s, x, nl, ()) = some true := by
  obtain ⟨g12, _⟩ := F12_t s (by omega)
  have a9 : F9 () = true ∧ G9 () = true := ⟨rfl, rfl⟩
  have a14 : F14 (0, ()) = cns 0 ∧ G14 (0, ()) = true := ⟨rfl, rfl⟩
  obtain ⟨r, hr, hR⟩ := rg_of hx
  have hn : Int.toNat (r : Int) = r := by omega
  have o1 : decide (0 ≤ (r : Int)) = true := decide_eq_true (by omega)
  have o2 : decide ((r : Int) < 11) = true := decide_eq_true (by omega)
  have o3 : decide (r < 11) = true := decide_eq_true (by omega)
  show S7 F9 G9 F12 G12 F13 G13 F14 G14 s x nl = _
  unfold S7
  simp only [hG, qG, aG, rG]
  simp only [hR, hn, o1, o2, o3, g12, a9.1, a9.2, a14.1, a14.2]
  cases F12 (s, ()) with
  | false => rfl
  | true =>
    by_cases hm : mayB (s.1.getD r dR)
    · have h21 := F13_e (op := 21) (.inl rfl) hr hm hl
      have h85 := F13_e (op := 85) (.inr rfl) hr hm hl
      have d1 : decide ((21 : Int) = 85) = false := rfl
      have d2 : decide ((21 : Int) = 21) = true := rfl
      have d3 : decide ((85 : Int) = 85) = true := rfl
      have d4 : decide ((85 : Int) = 21) = false := rfl
      rw [d1, d2] at h21
      rw [d3, d4] at h85
      unfold prN xI at h21 h85
      have hA : (nulS s (s.1.getD r dR).2.2.2.1 true).1.getD r dR = _ := (nulS_reg (by omega)).trans (nul_t hm)
      have hB := nul_f hm
      rw [← nulS_reg (s := s) (id := (s.1.getD r dR).2.2.2.1) (nl := false) (show r < 11 by omega)] at hB
      generalize nulS s (s.1.getD r dR).2.2.2.1 true = A at *
      generalize nulS s (s.1.getD r dR).2.2.2.1 false = B at *
      generalize hd : s.1.getD r dR = d at *
      simp only [h21.1, h21.2, h85.1, h85.2, List.getD_cons_zero, List.getD_cons_succ, hA]
      rcases hm with hk | hk <;> rcases hB with hB | hB <;> rw [hk, hB] <;> cases nl <;> simp [tt_eq, cns]
    · have h8 : ¬ (s.1.getD r dR).1 = 8 := fun h => hm (.inl h)
      have h10 : ¬ (s.1.getD r dR).1 = 10 := fun h => hm (.inr h)
      rw [decide_eq_false h8, decide_eq_false h10]
      cases nl <;> rfl
theorem verifyNulls_pure (x0 : KD6) (w0 : WFv KTx22 x0) (s0 : SZ 1048576 KTx22 x0) (x1 : Int) (w1 : WFv (.int .i64) x1) (s1 : SZ 1048576 (.int .i64) x1) (x2 : Bool) (w2 : WFv .bool x2) (s2 : SZ 1048576 .bool x2) : PureOK Tryz.prog 7 [⟨KTx22, x0⟩, ⟨.int .i64, x1⟩, ⟨.bool, x2⟩] ⟨.bool, true⟩ := by
  have hl : x0.2.2.2.1.length ≤ 1048576 := s0.2.2.2.1.1
  have h : F7 (x0, x1, x2, ()) = true ∧ G7 (x0, x1, x2, ()) = true := ofE (E7_eq w1 hl)
  have := p7 (x0, x1, x2, ()) h.2
  rw [h.1] at this
  exact this
end Go.Proofs.Nu
namespace Go.Proofs
open Go.GX
theorem verifyNulls_pure (x0 : KD6) (w0 : WFv KTx22 x0) (s0 : SZ 1048576 KTx22 x0) (x1 : Int) (w1 : WFv (.int .i64) x1) (s1 : SZ 1048576 (.int .i64) x1) (x2 : Bool) (w2 : WFv .bool x2) (s2 : SZ 1048576 .bool x2) : PureOK Tryz.prog 7 [⟨KTx22, x0⟩, ⟨.int .i64, x1⟩, ⟨.bool, x2⟩] ⟨.bool, true⟩ := Nu.verifyNulls_pure x0 w0 s0 x1 w1 s1 x2 w2 s2
end Go.Proofs
