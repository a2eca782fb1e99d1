import Derived.Test.YtjnbpklllapjiaaNC
namespace Go.Proofs
open Go.GX
set_option linter.unusedVariables false
set_option linter.unusedSimpArgs false
/-! ## Whether a state covers another one -/
abbrev dR : Rg := (0, (((0, (0, ())), (0, (0, ()))), (0, (0, (0, ())))))
abbrev dS : Sl := (0, (0, ((0, (((0, (0, ())), (0, (0, ()))), (0, (0, (0, ()))))), ())))
/-! ### The first one's -/
end Go.Proofs
