import Derived.Test.YtjnbpklllapjiaaM
import Derived.Test.YtjnbpklllapjiaaGe
namespace Go.Proofs
open Go.GX
set_option linter.unusedVariables false
set_option linter.unusedSimpArgs false
/-! ## Ids that go together: a table, and two maps -/
abbrev PL := List (Int × Int)
/-! ### The table -/
end Go.Proofs
