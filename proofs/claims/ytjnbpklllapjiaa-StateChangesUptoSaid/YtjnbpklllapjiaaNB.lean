import Derived.Test.YtjnbpklllapjiaaN
namespace Go.Proofs
open Go.GX
set_option linter.unusedVariables false
set_option linter.unusedSimpArgs false
/-! ### Two maps that say the same -/
def row (f g : Int × Int → Int) (P : PL) : List (Int × (Int × Unit)) := P.map (fun p => (f p, (g p, ())))
def pr (P : PL) : KD28 := (row (·.1) (·.2) P, (row (·.2) (·.1) P, ()))
end Go.Proofs
