/-
  No cell of these rows narrows 'for every input' (looked for: loops, veiled, ifaces, maps, wideKeys, modest, calm, conditions, laid).
  DERIVED. THE GIVEN ROWS OF THIS SEAT. 6 by the template 'for every input the law returns true; each argument reads behind the call as it read before'; 0 by the template 'total and deterministic' (their statements: YtfnjmgjpjjpegaaTotals.lean).
  GIVEN WITH THE SEED: the statements are not yours to turn. If you find one false, say at which input.
  Laid BY PROGRAM, IN A SANDBOX (cutbox-rows.mjs): the forced cells as the released guide's own fill.sh prints them over the translation e84c0e44473c09a8… (all of the seat's roots in one cut). By AI agents, Wed Nov 11 2026. No macro, syntax, notation, axiom, sorry.
-/
import Derived.Test.YtfnjmgjpjjpegaaChecked
import GoSem.Claim
import GoSem.ClaimJoined
import GoSem.ClaimMapViews
import Derived.JoinedTies
import Derived.KernelRfl
namespace Go.Proofs.Ytfnjmgjpjjpegaa
/- THE CELL 'sum', in the pinned program and in every row, IS THE sha256 OF THE DUMP (.gsa) THAT YtfnjmgjpjjpegaaProg.lean LOADS. Nothing in Lean hashes anything: it is a label: what it is worth is what the hold of that sum in a sandbox is worth. -/
noncomputable def Try.pinned : Pinned := { name := "ytfnjmgjpjjpegaa", sum := "e84c0e44473c09a8b0992770fd7c88ed5cbeb643d67773e4f4bac1df7ca31192", checked := Try.checked }
namespace Rows
def none {H : Type} : Left H := { results := [], args := [] }

/-- 'portcullislaw01.AluBins': WHATEVER THE INPUT: true; the input reads as it did. -/
def aluBinsSpec : ChangeSpec := { name := "aluBins", fn := fun _ => fun
  | [d1, d2, d3] => { results := [.lit (.bool true)], args := [d1, d2, d3] }
  | _ => none }
def aluBinsRow : OpenClaim := { program := "ytfnjmgjpjjpegaa", sum := "e84c0e44473c09a8b0992770fd7c88ed5cbeb643d67773e4f4bac1df7ca31192", func := "portcullis/portcullislaw01.AluBins", spec := "aluBins", apart := false }
def AluBinsSaid : Prop := aluBinsRow.holds Try.pinned (OpenSpec.ofChange aluBinsSpec)

/-- ITS FALSE NEIGHBOUR: 'it returns false'. Refute it at one input. -/
def aluBinsWrong : ChangeSpec := { name := "aluBins", fn := fun _ => fun
  | [d1, d2, d3] => { results := [.lit (.bool false)], args := [d1, d2, d3] }
  | _ => none }
def AluBinsWrongFalsely : Prop := aluBinsRow.holds Try.pinned (OpenSpec.ofChange aluBinsWrong)

/-- 'portcullislaw01.AluTests': WHATEVER THE INPUT: true; the input reads as it did. -/
def aluTestsSpec : ChangeSpec := { name := "aluTests", fn := fun _ => fun
  | [d1, d2, d3] => { results := [.lit (.bool true)], args := [d1, d2, d3] }
  | _ => none }
def aluTestsRow : OpenClaim := { program := "ytfnjmgjpjjpegaa", sum := "e84c0e44473c09a8b0992770fd7c88ed5cbeb643d67773e4f4bac1df7ca31192", func := "portcullis/portcullislaw01.AluTests", spec := "aluTests", apart := false }
def AluTestsSaid : Prop := aluTestsRow.holds Try.pinned (OpenSpec.ofChange aluTestsSpec)

/-- ITS FALSE NEIGHBOUR: 'it returns false'. Refute it at one input. -/
def aluTestsWrong : ChangeSpec := { name := "aluTests", fn := fun _ => fun
  | [d1, d2, d3] => { results := [.lit (.bool false)], args := [d1, d2, d3] }
  | _ => none }
def AluTestsWrongFalsely : Prop := aluTestsRow.holds Try.pinned (OpenSpec.ofChange aluTestsWrong)

/-- 'portcullislaw01.AluHalves': WHATEVER THE INPUT: true; the input reads as it did. -/
def aluHalvesSpec : ChangeSpec := { name := "aluHalves", fn := fun _ => fun
  | [d1, d2, d3] => { results := [.lit (.bool true)], args := [d1, d2, d3] }
  | _ => none }
def aluHalvesRow : OpenClaim := { program := "ytfnjmgjpjjpegaa", sum := "e84c0e44473c09a8b0992770fd7c88ed5cbeb643d67773e4f4bac1df7ca31192", func := "portcullis/portcullislaw01.AluHalves", spec := "aluHalves", apart := false }
def AluHalvesSaid : Prop := aluHalvesRow.holds Try.pinned (OpenSpec.ofChange aluHalvesSpec)

/-- ITS FALSE NEIGHBOUR: 'it returns false'. Refute it at one input. -/
def aluHalvesWrong : ChangeSpec := { name := "aluHalves", fn := fun _ => fun
  | [d1, d2, d3] => { results := [.lit (.bool false)], args := [d1, d2, d3] }
  | _ => none }
def AluHalvesWrongFalsely : Prop := aluHalvesRow.holds Try.pinned (OpenSpec.ofChange aluHalvesWrong)

/-- 'portcullislaw01.AluShifts': WHATEVER THE INPUT: true; the input reads as it did. -/
def aluShiftsSpec : ChangeSpec := { name := "aluShifts", fn := fun _ => fun
  | [d1, d2, d3] => { results := [.lit (.bool true)], args := [d1, d2, d3] }
  | _ => none }
def aluShiftsRow : OpenClaim := { program := "ytfnjmgjpjjpegaa", sum := "e84c0e44473c09a8b0992770fd7c88ed5cbeb643d67773e4f4bac1df7ca31192", func := "portcullis/portcullislaw01.AluShifts", spec := "aluShifts", apart := false }
def AluShiftsSaid : Prop := aluShiftsRow.holds Try.pinned (OpenSpec.ofChange aluShiftsSpec)

/-- ITS FALSE NEIGHBOUR: 'it returns false'. Refute it at one input. -/
def aluShiftsWrong : ChangeSpec := { name := "aluShifts", fn := fun _ => fun
  | [d1, d2, d3] => { results := [.lit (.bool false)], args := [d1, d2, d3] }
  | _ => none }
def AluShiftsWrongFalsely : Prop := aluShiftsRow.holds Try.pinned (OpenSpec.ofChange aluShiftsWrong)

/-- 'portcullislaw01.AluBits': WHATEVER THE INPUT: true; the input reads as it did. -/
def aluBitsSpec : ChangeSpec := { name := "aluBits", fn := fun _ => fun
  | [d1, d2, d3] => { results := [.lit (.bool true)], args := [d1, d2, d3] }
  | _ => none }
def aluBitsRow : OpenClaim := { program := "ytfnjmgjpjjpegaa", sum := "e84c0e44473c09a8b0992770fd7c88ed5cbeb643d67773e4f4bac1df7ca31192", func := "portcullis/portcullislaw01.AluBits", spec := "aluBits", apart := false }
def AluBitsSaid : Prop := aluBitsRow.holds Try.pinned (OpenSpec.ofChange aluBitsSpec)

/-- ITS FALSE NEIGHBOUR: 'it returns false'. Refute it at one input. -/
def aluBitsWrong : ChangeSpec := { name := "aluBits", fn := fun _ => fun
  | [d1, d2, d3] => { results := [.lit (.bool false)], args := [d1, d2, d3] }
  | _ => none }
def AluBitsWrongFalsely : Prop := aluBitsRow.holds Try.pinned (OpenSpec.ofChange aluBitsWrong)

/-- 'portcullislaw01.AluRules': WHATEVER THE INPUT: true; the input reads as it did. -/
def aluRulesSpec : ChangeSpec := { name := "aluRules", fn := fun _ => fun
  | [d1, d2] => { results := [.lit (.bool true)], args := [d1, d2] }
  | _ => none }
def aluRulesRow : OpenClaim := { program := "ytfnjmgjpjjpegaa", sum := "e84c0e44473c09a8b0992770fd7c88ed5cbeb643d67773e4f4bac1df7ca31192", func := "portcullis/portcullislaw01.AluRules", spec := "aluRules", apart := false }
def AluRulesSaid : Prop := aluRulesRow.holds Try.pinned (OpenSpec.ofChange aluRulesSpec)

/-- ITS FALSE NEIGHBOUR: 'it returns false'. Refute it at one input. -/
def aluRulesWrong : ChangeSpec := { name := "aluRules", fn := fun _ => fun
  | [d1, d2] => { results := [.lit (.bool false)], args := [d1, d2] }
  | _ => none }
def AluRulesWrongFalsely : Prop := aluRulesRow.holds Try.pinned (OpenSpec.ofChange aluRulesWrong)

/- THE SECOND FORM. 'bulk': how many values and letters a reading holds, each counted each time it is reached (what is shared counts as often as it is met; a slice's spare places count too). A statement '..UptoSaid' is the law's where the arguments, and the package variables that the reading takes, are together of bulk at most 1048576: NARROWER than '..Said'. Prove '..Said' where nothing that the law and all that it calls make is longer than what came in: it says more and counts as full. Else prove '..UptoSaid'. A law counts once. -/
mutual
def uptoBulk {H : Type} : DataW H → Nat
  | .lit (.string bytes) => bytes.length + 1
  | .lit _ => 1
  | .nil => 1
  | .ptr d => uptoBulk d + 1
  | .slice elems spare => uptoBulkAll elems + uptoBulkAll spare + 1
  | .agg parts => uptoBulkAll parts + 1
  | .iface _ d => uptoBulk d + 1
  | .map entries => uptoBulkEntries entries + 1
  | .held _ => 1
def uptoBulkAll {H : Type} : List (DataW H) → Nat
  | [] => 0
  | d :: r => uptoBulk d + uptoBulkAll r
def uptoBulkEntries {H : Type} : List (Lit × DataW H) → Nat
  | [] => 0
  | x :: r => uptoBulkEntry x + uptoBulkEntries r
def uptoBulkEntry {H : Type} : Lit × DataW H → Nat
  | (.string bytes, d) => bytes.length + uptoBulk d + 1
  | (_, d) => uptoBulk d + 1
 end
def uptoSmall : (H : Type) → List (DataW H) → Bool := fun _ ds => decide (uptoBulkAll ds ≤ 1048576)
def OpenSpec.upto (s : _root_.Go.ChangeSpec) : _root_.Go.OpenSpec := { _root_.Go.OpenSpec.ofChange s with cond := some uptoSmall }

/-- 'portcullislaw01.AluBins', WHERE WHAT IT READS IS OF BULK AT MOST 1048576: true; the input reads as it did. -/
def aluBinsUptoRow : OpenClaim := { program := "ytfnjmgjpjjpegaa", sum := "e84c0e44473c09a8b0992770fd7c88ed5cbeb643d67773e4f4bac1df7ca31192", func := "portcullis/portcullislaw01.AluBins", spec := "aluBins", apart := false, narrowed := true }
def AluBinsUptoSaid : Prop := aluBinsUptoRow.holds Try.pinned (OpenSpec.upto aluBinsSpec)

/-- 'portcullislaw01.AluTests', WHERE WHAT IT READS IS OF BULK AT MOST 1048576: true; the input reads as it did. -/
def aluTestsUptoRow : OpenClaim := { program := "ytfnjmgjpjjpegaa", sum := "e84c0e44473c09a8b0992770fd7c88ed5cbeb643d67773e4f4bac1df7ca31192", func := "portcullis/portcullislaw01.AluTests", spec := "aluTests", apart := false, narrowed := true }
def AluTestsUptoSaid : Prop := aluTestsUptoRow.holds Try.pinned (OpenSpec.upto aluTestsSpec)

/-- 'portcullislaw01.AluHalves', WHERE WHAT IT READS IS OF BULK AT MOST 1048576: true; the input reads as it did. -/
def aluHalvesUptoRow : OpenClaim := { program := "ytfnjmgjpjjpegaa", sum := "e84c0e44473c09a8b0992770fd7c88ed5cbeb643d67773e4f4bac1df7ca31192", func := "portcullis/portcullislaw01.AluHalves", spec := "aluHalves", apart := false, narrowed := true }
def AluHalvesUptoSaid : Prop := aluHalvesUptoRow.holds Try.pinned (OpenSpec.upto aluHalvesSpec)

/-- 'portcullislaw01.AluShifts', WHERE WHAT IT READS IS OF BULK AT MOST 1048576: true; the input reads as it did. -/
def aluShiftsUptoRow : OpenClaim := { program := "ytfnjmgjpjjpegaa", sum := "e84c0e44473c09a8b0992770fd7c88ed5cbeb643d67773e4f4bac1df7ca31192", func := "portcullis/portcullislaw01.AluShifts", spec := "aluShifts", apart := false, narrowed := true }
def AluShiftsUptoSaid : Prop := aluShiftsUptoRow.holds Try.pinned (OpenSpec.upto aluShiftsSpec)

/-- 'portcullislaw01.AluBits', WHERE WHAT IT READS IS OF BULK AT MOST 1048576: true; the input reads as it did. -/
def aluBitsUptoRow : OpenClaim := { program := "ytfnjmgjpjjpegaa", sum := "e84c0e44473c09a8b0992770fd7c88ed5cbeb643d67773e4f4bac1df7ca31192", func := "portcullis/portcullislaw01.AluBits", spec := "aluBits", apart := false, narrowed := true }
def AluBitsUptoSaid : Prop := aluBitsUptoRow.holds Try.pinned (OpenSpec.upto aluBitsSpec)

/-- 'portcullislaw01.AluRules', WHERE WHAT IT READS IS OF BULK AT MOST 1048576: true; the input reads as it did. -/
def aluRulesUptoRow : OpenClaim := { program := "ytfnjmgjpjjpegaa", sum := "e84c0e44473c09a8b0992770fd7c88ed5cbeb643d67773e4f4bac1df7ca31192", func := "portcullis/portcullislaw01.AluRules", spec := "aluRules", apart := false, narrowed := true }
def AluRulesUptoSaid : Prop := aluRulesUptoRow.holds Try.pinned (OpenSpec.upto aluRulesSpec)

end Rows
end Go.Proofs.Ytfnjmgjpjjpegaa
