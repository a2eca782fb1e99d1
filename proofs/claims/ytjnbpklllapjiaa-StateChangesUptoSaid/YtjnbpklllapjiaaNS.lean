import Derived.Test.YtjnbpklllapjiaaNG
import Derived.Test.YtjnbpklllapjiaaIB
namespace Go.Proofs
open Go.GX
set_option linter.unusedVariables false
set_option linter.unusedSimpArgs false
/-! ## A state covers itself, and a copy of it is another one's memory -/
theorem E15g_eq {a : KD6} (hl : a.2.2.2.1.length ≤ 1048576) : E15g (a, ()) = some a := by
  show S15g F36g G36g a = some a
  unfold S15g
  have h1 : ∀ l : List Int, F36g (l, ()) = l := fun _ => rfl
  have h2 : G36g (a.2.2.2.1, ()) = true := decide_eq_true (show a.2.2.2.1.length * 8 ≤ 140737488355328 by omega)
  simp only [seI_eq, flI_eq, fl0_eq, seO_eq, h1, h2]
  rfl
theorem F15g_e {a : KD6} (hl : a.2.2.2.1.length ≤ 1048576) : F15g (a, ()) = a ∧ G15g (a, ()) = true := ofE (E15g_eq hl)
def withR (c : KD6) (R : List Int) : KD6 := (c.1, (c.2.1, (c.2.2.1, (R, (c.2.2.2.2.1, c.2.2.2.2.2)))))
end Go.Proofs
