import Derived.Test.YtibiflonpfehiaaT
import Derived.Test.YtibiflonpfehiaaGc
namespace Go.Proofs
open Go.GX
noncomputable def Try.tabl : Tr TI := (.nd (.nd (.nd (.nd .lf none (.nd (.nd .lf (some ⟨(.pair (.int .i64) (.pair (.int .i64) (.pair (.int .i64) (.pair (.int .i64) (.pair (.int .i64) .unit))))), 40, [3, 3, 3, 3, 3], true⟩) .lf) none .lf)) (some ⟨(.int .i64), 8, [], true⟩) .lf) none (.nd .lf none (.nd .lf none (.nd .lf (some ⟨.slice, 24, [3], false⟩) .lf)))) none (.nd (.nd .lf (some ⟨.bool, 1, [], true⟩) .lf) none (.nd .lf none (.nd (.nd .lf (some ⟨(.vsl (.pair (.int .i64) (.pair (.int .i64) (.pair (.int .i64) (.pair (.int .i64) (.pair (.int .i64) .unit)))))), 24, [39], false⟩) .lf) none .lf))))
noncomputable def Try.Θl : Tab := fun n => Try.tabl.get n
theorem Try.tabOKl : TabOK Try.prog Try.Θl := TabOK.of (by kernel_rfl)
end Go.Proofs
