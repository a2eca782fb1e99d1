import Derived.Test.YtfhpihomdnbgpaaNO
import Derived.Test.YtfhpihomdnbgpaaIQ
namespace Go.Proofs.Po
open Go.GX
set_option linter.unusedVariables false
set_option linter.unusedSimpArgs false
end Go.Proofs.Po
