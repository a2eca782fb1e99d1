import Derived.Test.YtfhpihomdnbgpaaNP
namespace Go.Proofs.Po
open Go.GX
set_option linter.unusedVariables false
set_option linter.unusedSimpArgs false
end Go.Proofs.Po
namespace Go.Proofs
open Go.GX
theorem protoClears_pure (x0 : KD6) (w0 : WFv KT17 x0) (s0 : SZ 1048576 KT17 x0) (x1 : List Sp) (w1 : WFv (.vsl KT21) x1) (s1 : SZ 1048576 (.vsl KT21) x1) (x2 : Int) (w2 : WFv (.int .i64) x2) (s2 : SZ 1048576 (.int .i64) x2) :
 PureOK Try.prog 3 [⟨KT17, x0⟩, ⟨.vsl KT21, x1⟩, ⟨.int .i64, x2⟩] ⟨.bool, true⟩ := Po.protoClears_pure x0 w0 s0 x1 w1 s1 x2 w2 s2
end Go.Proofs
