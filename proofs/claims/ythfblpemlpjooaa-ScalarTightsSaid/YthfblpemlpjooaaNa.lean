import Derived.Test.YthfblpemlpjooaaMf
import Derived.Test.YthfblpemlpjooaaGc
namespace Go.Proofs
open Go.GX
set_option linter.unusedVariables false
set_option linter.unusedSimpArgs false
theorem S3_eq (l : List Sc) (w n : Int) : E3 (l, w, n, ()) = S3 F7 G7 F8 G8 F9 G9 F10 G10 F11 G11 F12 G12 l w n := rfl
theorem F8_ex (s : Sc) (n : Int) : ∃ x ok, F8 (s, n, ()) = (x, ok, ()) ∧ G8 (s, n, ()) = true ∧ (ok = true → hasS s x = true) := by
  obtain ⟨x, ok, h1, h2⟩ := E8_ex s n
  have h : F8 (s, n, ()) = (x, ok, ()) ∧ G8 (s, n, ()) = true := ofE h1
  exact ⟨x, ok, h.1, h.2, h2⟩
theorem E3_eq {l : List Sc} {w n : Int} (h0 : RS (l.getD 0 ((0, 0, ()), 0, 0, ()))) : E3 (l, w, n, ()) = some true := by
  rw [S3_eq]
  unfold S3
  generalize l.getD 0 ((0, 0, ()), 0, 0, ()) = a at *
  rw [(F7_eq a).1, (F7_eq a).2]
  have hw := RS_wide h0
  have hm := may_wide a
  generalize wideF a = s at *
  obtain ⟨x, ok, h1, h2, h3⟩ := F8_ex s n
  rw [h1, h2]
  simp only [(F9_eq _ _).1, (F9_eq _ _).2, (F10_eq _ _).1, (F10_eq _ _).2, (F11_eq _ _).1, (F11_eq _ _).2]
  rw [show F12 () = true from rfl, show G12 () = true from rfl]
  have hob : decide (0 ≤ IntKind.wrap .u64 w) = true := decide_eq_true (inR_wrap w).1
  have e1 : ∀ {α : Type} {p q : α}, (bif eqS (castS s w) (castS s w) then p else q) = p := bif_t (eqS_self _)
  cases ok
  · exact (bif_f rfl).trans ((bif_t (by simp)).trans rfl)
  · refine (bif_t rfl).trans ?_
    have hx := h3 rfl
    by_cases h8 : w = 8
    · subst h8
      have := cast_has hw hm (.inl rfl) hx
      refine (bif_t rfl).trans ((bif_f ?_).trans ((bif_t (by simp)).trans rfl))
      show (!hasS (castS s 8) (iand .u64 x (mst 8))) = false
      rw [this]; rfl
    · by_cases h16 : w = 16
      · subst h16
        have := cast_has hw hm (.inr (.inl rfl)) hx
        refine (bif_f rfl).trans ((bif_t rfl).trans ((bif_f ?_).trans ((bif_t (by simp)).trans rfl)))
        show (!hasS (castS s 16) (iand .u64 x (mst 16))) = false
        rw [this]; rfl
      · by_cases h32 : w = 32
        · subst h32
          have := cast_has hw hm (.inr (.inr rfl)) hx
          refine (bif_f rfl).trans ((bif_f rfl).trans ((bif_t rfl).trans ((bif_f ?_).trans ((bif_t (by simp)).trans rfl))))
          show (!hasS (castS s 32) (iand .u64 x (mst 32))) = false
          rw [this]; rfl
        · exact (bif_f (decide_eq_false h8)).trans ((bif_f (decide_eq_false h16)).trans ((bif_f (decide_eq_false h32)).trans ((bif_t (by simp)).trans rfl)))
/-! ## The laws -/
theorem inR_wf {a : Int} (h : (Lit.int .u64 a).wf = true) : InR a := wf_u64 h
theorem RS_of {s : Sc} (h : WFv (.pair (.pair (.int .u64) (.pair (.int .u64) .unit)) (.pair (.int .u64) (.pair (.int .u64) .unit))) s) : RS s :=
  ⟨⟨inR_wf h.1.1, inR_wf h.1.2.1⟩, inR_wf h.2.1, inR_wf h.2.2.1⟩
theorem RS_at {l : List Sc} {n : Nat} (h : WFv (.arr n (.pair (.pair (.int .u64) (.pair (.int .u64) .unit)) (.pair (.int .u64) (.pair (.int .u64) .unit)))) l) {i : Nat} (hi : i < n) : RS (l.getD i ((0, 0, ()), 0, 0, ())) := by
  have hl : i < l.length := by rw [h.1]; exact hi
  rw [getD_lt hl]
  exact RS_of (h.2 _ (List.getElem_mem hl))
theorem inR_at {l : List Int} {n : Nat} (h : WFv (.arr n (.int .u64)) l) (i : Nat) : InR (l.getD i 0) := by
  by_cases hl : i < l.length
  · rw [getD_lt hl]; exact inR_wf (h.2 _ (List.getElem_mem hl))
  · rw [show l.getD i 0 = 0 by simp [List.getD, List.getElem?_eq_none (show l.length ≤ i by omega)]]; exact inR0
theorem scalarCasts_pure (x0 : List Sc) (w0 : WFv (.arr 2 (.pair (.pair (.int .u64) (.pair (.int .u64) .unit)) (.pair (.int .u64) (.pair (.int .u64) .unit)))) x0) (x1 : Int) (w1 : WFv (.int .i64) x1) (x2 : Int) (w2 : WFv (.int .u64) x2) :
    PureOK Try.prog 3 [⟨.arr 2 (.pair (.pair (.int .u64) (.pair (.int .u64) .unit)) (.pair (.int .u64) (.pair (.int .u64) .unit))), x0⟩, ⟨.int .i64, x1⟩, ⟨.int .u64, x2⟩] ⟨.bool, true⟩ := by
  have h : F3 (x0, x1, x2, ()) = true ∧ G3 (x0, x1, x2, ()) = true := ofE (E3_eq (RS_at w0 (by omega)))
  have := p3 (x0, x1, x2, ()) h.2
  rw [h.1] at this
  exact this
theorem scalarKeeps_pure (x0 : Sc) (w0 : WFv (.pair (.pair (.int .u64) (.pair (.int .u64) .unit)) (.pair (.int .u64) (.pair (.int .u64) .unit))) x0) (x1 : List Int) (w1 : WFv (.arr 3 (.int .u64)) x1) :
    PureOK Try.prog 4 [⟨.pair (.pair (.int .u64) (.pair (.int .u64) .unit)) (.pair (.int .u64) (.pair (.int .u64) .unit)), x0⟩, ⟨.arr 3 (.int .u64), x1⟩] ⟨.bool, true⟩ := by
  have h : F4 (x0, x1, ()) = true ∧ G4 (x0, x1, ()) = true := ofE (E4_eq (RS_of w0) (inR_at w1))
  have := p4 (x0, x1, ()) h.2
  rw [h.1] at this
  exact this
theorem scalarTights_pure (x0 : Sc) (w0 : WFv (.pair (.pair (.int .u64) (.pair (.int .u64) .unit)) (.pair (.int .u64) (.pair (.int .u64) .unit))) x0) (x1 : Int) (w1 : WFv (.int .i64) x1) :
    PureOK Try.prog 5 [⟨.pair (.pair (.int .u64) (.pair (.int .u64) .unit)) (.pair (.int .u64) (.pair (.int .u64) .unit)), x0⟩, ⟨.int .i64, x1⟩] ⟨.bool, true⟩ := by
  have h : F5 (x0, x1, ()) = true ∧ G5 (x0, x1, ()) = true := ofE (E5_eq x0 x1)
  have := p5 (x0, x1, ()) h.2
  rw [h.1] at this
  exact this
theorem scalarSets_pure (x0 : List Sc) (w0 : WFv (.arr 2 (.pair (.pair (.int .u64) (.pair (.int .u64) .unit)) (.pair (.int .u64) (.pair (.int .u64) .unit)))) x0) (x1 : Int) (w1 : WFv (.int .u64) x1) :
    PureOK Try.prog 6 [⟨.arr 2 (.pair (.pair (.int .u64) (.pair (.int .u64) .unit)) (.pair (.int .u64) (.pair (.int .u64) .unit))), x0⟩, ⟨.int .u64, x1⟩] ⟨.bool, true⟩ := by
  have h : F6 (x0, x1, ()) = true ∧ G6 (x0, x1, ()) = true := ofE (E6_eq (RS_at w0 (by omega)) (RS_at w0 (by omega)) (inR_wf w1))
  have := p6 (x0, x1, ()) h.2
  rw [h.1] at this
  exact this
end Go.Proofs
