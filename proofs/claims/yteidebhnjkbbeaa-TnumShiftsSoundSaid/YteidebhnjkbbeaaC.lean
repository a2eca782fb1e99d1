import Derived.Test.YteidebhnjkbbeaaB
import Derived.Test.YteidebhnjkbbeaaPC
namespace Go.Proofs
open Go.GX
set_option linter.unusedVariables false
set_option linter.unusedSimpArgs false
def ofK (least : Int) : Nat → Int → Int → Option Tn.den
  | 0, _, _ => none
  | n + 1, x, m => bif !(decide (x = 0)) then ofK least n (ishr .u64 x 1) (ior .u64 (ishl .u64 m 1) 1) else some (iandn .u64 least m, m, ())
theorem t24 (x y : Int) : fnT (CxA K0) Try.f24 Tn [vU x, vU y] = ofK x 100 (ixor .u64 x y) 0 := by kernel_rfl
end Go.Proofs
