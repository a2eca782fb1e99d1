import Derived.Test.YtfhpihomdnbgpaaNN
namespace Go.Proofs.Po
open Go.GX
set_option linter.unusedVariables false
set_option linter.unusedSimpArgs false
theorem o131 {s : KD6} {m : List Sp} (hr : ∀ j, 0 ≤ (s.1.getD j dR).2.1.1.1) (hl : s.2.2.2.1.length ≤ 1048576) (hi : -9223372036854775808 ≤ s.2.2.2.2.1 ∧ s.2.2.2.2.1 ≤ 1099511627776) :
 ∃ t e, E9g (s, m, 131, ()) = some (t, e) ∧ Outc s 131 t e := by
 obtain ⟨e, h17, hq⟩ := E17_t s m (a := [0, 6, 4]) (k := [27]) (by decide) (by decide) hr
 have e16 : E16g (131, ()) = some (([0, 6, 4], ([27], ())), true) := by kernel_rfl
 have f16 : F16g (131, ()) = (([0, 6, 4], ([27], ())), true) ∧ G16g (131, ()) = true := ofE e16
 have f17 : F17g ((s, (m, (([0, 6, 4], ([27], ())), ()))), ()) = e := (ofE (E := E17 (cl s m [0, 6, 4] [27])) (d := dflt (.int .i64)) h17).1
 have g17 : G17g ((s, (m, (([0, 6, 4], ([27], ())), ()))), ()) = true := some_of ⟨e, h17⟩
 show ∃ t e, S9g F16g G16g F17g G17g F18g G18g F19 G19 F20 G20 F21 G21 F24 G24 F25 G25 s m 131 = _ ∧ _
 unfold S9g
 simp only [Dk.reI_eq, Dk.reO_eq, flI_eq, flO_eq, fl0_eq, seO_eq, f16.1, f16.2, f17, g17, (F18g_e hl).1, (F18g_e hl).2, G19_t, show G20 (0, ()) = true from rfl, (F24_e _).2]
 by_cases he : e = 0
 ·rw [decide_eq_true he, decide_eq_true (show (s.2.2.2.1.length + 1) * 8 ≤ 140737488355328 by omega), decide_eq_true (show 0 + (s.2.2.2.1.length + 1) ≤ s.2.2.2.1.length + 1 by omega), sec_full (show (s.2.2.2.1 ++ [IntKind.wrap .i64 (s.2.2.2.2.1 + 1)]).length = s.2.2.2.1.length + 1 by simp)]
  have hid : s.2.2.2.2.1 ≤ IntKind.wrap .i64 (s.2.2.2.2.1 + 1) := by rw [wi64 (by omega)]; omega
  exact ⟨_, _, rfl, Outc.ok (s.1, (s.2.1, (s.2.2.1, (s.2.2.2.1 ++ [IntKind.wrap .i64 (s.2.2.2.2.1 + 1)], (IntKind.wrap .i64 (s.2.2.2.2.1 + 1), s.2.2.2.2.2))))) _ (show (10 : Int) ≠ 0 by decide) (fun i => .inl rfl) hid (.inl ⟨rfl, rfl, rfl⟩)⟩
 ·rw [decide_eq_false he]
  exact ⟨_, _, rfl, Outc.err he⟩
theorem oCall {s : KD6} {m : List Sp} {n : Int} (hr : ∀ j, 0 ≤ (s.1.getD j dR).2.1.1.1) (hl : s.2.2.2.1.length ≤ 1048576) (hi : -9223372036854775808 ≤ s.2.2.2.2.1 ∧ s.2.2.2.2.1 ≤ 1099511627776) :
 ∃ t e, F9 (s, m, n, ()) = (t, (e, ())) ∧ G9 (s, m, n, ()) = true ∧ Outc s n t e := by
 by_cases hn : n = 131
 ·subst hn
  obtain ⟨t, e, h, ho⟩ := o131 (m := m) hr hl hi
  refine ⟨t, e, ?_, ?_, ho⟩
  ·show (if (131 : Int) = 131 then F9g (s, m, 131, ()) else _) = _
   rw [if_pos rfl]
   unfold F9g
   rw [h]; rfl
  ·show (if (131 : Int) = 131 then G9g (s, m, 131, ()) else _) = _
   rw [if_pos rfl]
   exact some_of ⟨_, h⟩
 ·obtain ⟨t, e, h, ho⟩ := C9p (m := m) hr hl hi hn
  refine ⟨t, e, ?_, ?_, ho⟩
  ·show (if n = 131 then _ else Pl.F9 (s, m, n, ())) = _
   rw [if_neg hn]
   exact (ofE (E := Pl.E9) (d := dflt (.tup KT17 (.tup (.int .i64) .tnil))) h).1
  ·show (if n = 131 then _ else Pl.G9 (s, m, n, ())) = _
   rw [if_neg hn]
   exact some_of ⟨_, h⟩
end Go.Proofs.Po
