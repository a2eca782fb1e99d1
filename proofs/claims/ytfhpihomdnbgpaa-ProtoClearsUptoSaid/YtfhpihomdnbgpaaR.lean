import Derived.Test.YtfhpihomdnbgpaaBC
namespace Go.Proofs.Po
open Go.GX
set_option linter.unusedVariables false
set_option maxRecDepth 100000
noncomputable def F17g : (KDc20 × Unit) → Int := fun x => F17 x.1 ()
noncomputable def G17g : (KDc20 × Unit) → Bool := fun x => G17 x.1 ()
theorem sm17g_ok : SmOK Tryo.prog 17 (smG [.bv 0 ODc6] (.v (.int .i64)) 0 F17g G17g) :=
 SmOK.smG (n1 := 1) (by kernel_rfl) (GOK.ofSm (pts := [.bv 0 ODc6]) (n1 := 1) (sm := smR OD0 [0] [] (.int .i64) F17 G17) (T := .int .i64) (y := F17g) (k := G17g) sm17_ok (by kernel_rfl) (fun x => ⟨_, _, (by kernel_rfl : smR OD0 [0] [] (.int .i64) F17 G17 (ptA [.bv 0 ODc6] x) (ptM [.bv 0 ODc6] x) 1 = some (⟨.int .i64, F17g x⟩, ptM [.bv 0 ODc6] x, 1, G17g x && true))⟩))
end Go.Proofs.Po
