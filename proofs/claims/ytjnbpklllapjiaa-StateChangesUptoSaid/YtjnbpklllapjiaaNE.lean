import Derived.Test.YtjnbpklllapjiaaND
namespace Go.Proofs
open Go.GX
set_option linter.unusedVariables false
set_option linter.unusedSimpArgs false
/-! ### The reference's -/
end Go.Proofs
