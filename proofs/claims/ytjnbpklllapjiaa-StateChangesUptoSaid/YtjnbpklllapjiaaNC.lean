import Derived.Test.YtjnbpklllapjiaaNB
namespace Go.Proofs
open Go.GX
set_option linter.unusedVariables false
set_option linter.unusedSimpArgs false
/-! ## Registers and slots -/
abbrev Rg := Int × (Sc × (Int × (Int × (Int × Unit))))
abbrev Sl := Int × (Int × (Rg × Unit))
/-! ### Slots -/
end Go.Proofs
