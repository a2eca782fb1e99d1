import Derived.Test.YtfhpihomdnbgpaaNJ
namespace Go.Proofs
open Go.GX
set_option linter.unusedVariables false
set_option linter.unusedSimpArgs false
abbrev zS : KD6 := ([], ([], (0, ([], (0, ())))))
theorem reg_nn {s : KD6} (w : WFv KT17 s) (j : Nat) : 0 ≤ (s.1.getD j dR).2.1.1.1 := by
 by_cases hj : j < s.1.length
 ·have hm : s.1.getD j dR ∈ s.1 := by rw [List.getD_eq_getElem?_getD, List.getElem?_eq_getElem hj]; exact List.getElem_mem hj
  exact (wf_u64 (w.1.2 _ hm).2.1.1.1).1
 ·rw [List.getD_eq_getElem?_getD, List.getElem?_eq_none (by omega)]
  exact Int.le_refl 0
end Go.Proofs
