import Derived.Test.YtibiflonpfehiaaMC
namespace Go.Proofs
open Go.GX
set_option linter.unusedVariables false
set_option linter.unusedSimpArgs false
/-! ## Where an instruction goes -/
noncomputable def nx (l : List In) (k : Nat) : List Int :=
  (bif decide ((l.getD k z0).1 = 149) || decide ((l.getD k z0).1 = 5) then [] else [((k + lng (l.getD k z0) : Nat) : Int)]) ++ (bif jmp (l.getD k z0) then [tgt (l.getD k z0) k] else [])
theorem nx_len (l : List In) (k : Nat) : (nx l k).length ≤ 2 := by
  unfold nx
  rw [List.length_append]
  cases decide ((l.getD k z0).1 = 149) || decide ((l.getD k z0).1 = 5) <;> cases jmp (l.getD k z0) <;> simp
theorem E25_eq {l : List In} {k : Nat} (hk : k < l.length) (hl : l.length ≤ 4096) : E25 (l, (k : Int), ()) = some (nx l k) := by
  show S25 F19 G19 F22 G22 l (k : Int) = _
  unfold S25
  have hp := lng_pos (l.getD k z0)
  have e1 : IntKind.wrap .i64 ((k : Int) + 1) = ((k + 1 : Nat) : Int) := by rw [wi64 (by omega)]; omega
  have e2 : IntKind.wrap .i64 ((k : Int) + (lng (l.getD k z0) : Int)) = ((k + lng (l.getD k z0) : Nat) : Int) := by rw [wi64 (by omega)]; omega
  rw [show Int.toNat (k : Int) = k by omega, e1, decide_eq_true (show (0 : Int) ≤ (k : Int) by omega), decide_eq_true (show (k : Int) < ((l.length : Nat) : Int) by omega)]
  simp only [(F22_e _).1, (F22_e _).2, G19_t, e2]
  unfold nx jmp tgt
  generalize decide ((l.getD k z0).1 = 149) = p
  generalize decide ((l.getD k z0).1 = 5) = q
  generalize F19 (l.getD k z0, ()) = r
  cases p <;> cases q <;> cases r <;> rfl
theorem F25_eq {l : List In} {k : Nat} (hk : k < l.length) (hl : l.length ≤ 4096) : F25 (l, (k : Int), ()) = nx l k ∧ G25 (l, (k : Int), ()) = true := ofE (E25_eq hk hl)
theorem F18_b {l : List In} {b : List Bool} (hl : l.length ≤ 4096) (h : bg l = .inl b) : F18 (l, ()) = (b, -1, ()) ∧ G18 (l, ()) = true := by
  have := E18_eq hl
  rw [h] at this
  exact ofE this
theorem E15_eq {l : List In} {b : List Bool} {k : Nat} (hg : Good l) (hb : bg l = .inl b) (hk : k < l.length) : E15 (l, (k : Int), ()) = some (bif b.getD k false then nx l k else []) := by
  show S15 F7 G7 F18 G18 F25 G25 l (k : Int) = _
  unfold S15
  obtain ⟨p, c, h1, h2, h3⟩ := F7_ex l
  have hc : c = 0 := h3.2 hg
  subst hc
  have hB := bg_BI hb
  rw [h1, h2, (F18_b hg.2.1 hb).1, (F18_b hg.2.1 hb).2, (F25_eq hk hg.2.1).1, (F25_eq hk hg.2.1).2]
  rw [show Int.toNat (k : Int) = k by omega, decide_eq_false (show ¬ (k : Int) < 0 by omega), decide_eq_false (show ¬ (k : Int) ≥ ((l.length : Nat) : Int) by omega)]
  have := hB.len
  rw [decide_eq_true (show (0 : Int) ≤ (k : Int) by omega), decide_eq_true (show (k : Int) < ((b.length : Nat) : Int) by omega)]
  cases b.getD k false <;> rfl
end Go.Proofs
