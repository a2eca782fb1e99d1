import Derived.Test.YtfhpihomdnbgpaaM
import Derived.Test.YtfhpihomdnbgpaaGd
namespace Go.Proofs
open Go.GX
set_option linter.unusedVariables false
set_option linter.unusedSimpArgs false
abbrev Rg := Int × (Sc × (Int × (Int × (Int × Unit))))
abbrev Sl := Int × (Int × (Rg × Unit))
abbrev dR : Rg := (0, (((0, (0, ())), (0, (0, ()))), (0, (0, (0, ())))))
abbrev dS : Sl := (0, (0, ((0, (((0, (0, ())), (0, (0, ()))), (0, (0, (0, ()))))), ())))
end Go.Proofs
