/-
  No cell of these rows narrows 'for every input' (looked for: loops, veiled, ifaces, maps, wideKeys, modest, calm, conditions, laid).
  DERIVED. THE GIVEN ROWS OF THIS SEAT. 4 by the template 'for every input the law returns true; each argument reads behind the call as it read before'; 0 by the template 'total and deterministic' (their statements: YthfblpemlpjooaaTotals.lean).
  GIVEN WITH THE SEED: the statements are not yours to turn. If you find one false, say at which input.
  Laid BY PROGRAM, IN A SANDBOX (cutbox-rows.mjs): the forced cells as the released guide's own fill.sh prints them over the translation 77d0e49e6040f7f2… (all of the seat's roots in one cut). By AI agents, Wed Nov 11 2026. No macro, syntax, notation, axiom, sorry.
-/
import Derived.Test.YthfblpemlpjooaaChecked
import GoSem.Claim
import GoSem.ClaimJoined
import GoSem.ClaimMapViews
import Derived.JoinedTies
import Derived.KernelRfl
namespace Go.Proofs.Ythfblpemlpjooaa
/- THE CELL 'sum', in the pinned program and in every row, IS THE sha256 OF THE DUMP (.gsa) THAT YthfblpemlpjooaaProg.lean LOADS. Nothing in Lean hashes anything: it is a label: what it is worth is what the hold of that sum in a sandbox is worth. -/
noncomputable def Try.pinned : Pinned := { name := "ythfblpemlpjooaa", sum := "77d0e49e6040f7f2190d12189069f0156a03ae121b71c5396610c14d5d45adb6", checked := Try.checked }
namespace Rows
def none {H : Type} : Left H := { results := [], args := [] }

/-- 'portcullislaw16.ScalarCasts': WHATEVER THE INPUT: true; the input reads as it did. -/
def scalarCastsSpec : ChangeSpec := { name := "scalarCasts", fn := fun _ => fun
  | [d1, d2, d3] => { results := [.lit (.bool true)], args := [d1, d2, d3] }
  | _ => none }
def scalarCastsRow : OpenClaim := { program := "ythfblpemlpjooaa", sum := "77d0e49e6040f7f2190d12189069f0156a03ae121b71c5396610c14d5d45adb6", func := "portcullis/portcullislaw16.ScalarCasts", spec := "scalarCasts", unfollowed := true, recurses := true, apart := false }
def ScalarCastsSaid : Prop := scalarCastsRow.holds Try.pinned (OpenSpec.ofChange scalarCastsSpec)

/-- ITS FALSE NEIGHBOUR: 'it returns false'. Refute it at one input. -/
def scalarCastsWrong : ChangeSpec := { name := "scalarCasts", fn := fun _ => fun
  | [d1, d2, d3] => { results := [.lit (.bool false)], args := [d1, d2, d3] }
  | _ => none }
def ScalarCastsWrongFalsely : Prop := scalarCastsRow.holds Try.pinned (OpenSpec.ofChange scalarCastsWrong)

/-- 'portcullislaw16.ScalarKeeps': WHATEVER THE INPUT: true; the input reads as it did. -/
def scalarKeepsSpec : ChangeSpec := { name := "scalarKeeps", fn := fun _ => fun
  | [d1, d2] => { results := [.lit (.bool true)], args := [d1, d2] }
  | _ => none }
def scalarKeepsRow : OpenClaim := { program := "ythfblpemlpjooaa", sum := "77d0e49e6040f7f2190d12189069f0156a03ae121b71c5396610c14d5d45adb6", func := "portcullis/portcullislaw16.ScalarKeeps", spec := "scalarKeeps", unfollowed := true, recurses := true, apart := false }
def ScalarKeepsSaid : Prop := scalarKeepsRow.holds Try.pinned (OpenSpec.ofChange scalarKeepsSpec)

/-- ITS FALSE NEIGHBOUR: 'it returns false'. Refute it at one input. -/
def scalarKeepsWrong : ChangeSpec := { name := "scalarKeeps", fn := fun _ => fun
  | [d1, d2] => { results := [.lit (.bool false)], args := [d1, d2] }
  | _ => none }
def ScalarKeepsWrongFalsely : Prop := scalarKeepsRow.holds Try.pinned (OpenSpec.ofChange scalarKeepsWrong)

/-- 'portcullislaw16.ScalarTights': WHATEVER THE INPUT: true; the input reads as it did. -/
def scalarTightsSpec : ChangeSpec := { name := "scalarTights", fn := fun _ => fun
  | [d1, d2] => { results := [.lit (.bool true)], args := [d1, d2] }
  | _ => none }
def scalarTightsRow : OpenClaim := { program := "ythfblpemlpjooaa", sum := "77d0e49e6040f7f2190d12189069f0156a03ae121b71c5396610c14d5d45adb6", func := "portcullis/portcullislaw16.ScalarTights", spec := "scalarTights", unfollowed := true, recurses := true, apart := false }
def ScalarTightsSaid : Prop := scalarTightsRow.holds Try.pinned (OpenSpec.ofChange scalarTightsSpec)

/-- ITS FALSE NEIGHBOUR: 'it returns false'. Refute it at one input. -/
def scalarTightsWrong : ChangeSpec := { name := "scalarTights", fn := fun _ => fun
  | [d1, d2] => { results := [.lit (.bool false)], args := [d1, d2] }
  | _ => none }
def ScalarTightsWrongFalsely : Prop := scalarTightsRow.holds Try.pinned (OpenSpec.ofChange scalarTightsWrong)

/-- 'portcullislaw16.ScalarSets': WHATEVER THE INPUT: true; the input reads as it did. -/
def scalarSetsSpec : ChangeSpec := { name := "scalarSets", fn := fun _ => fun
  | [d1, d2] => { results := [.lit (.bool true)], args := [d1, d2] }
  | _ => none }
def scalarSetsRow : OpenClaim := { program := "ythfblpemlpjooaa", sum := "77d0e49e6040f7f2190d12189069f0156a03ae121b71c5396610c14d5d45adb6", func := "portcullis/portcullislaw16.ScalarSets", spec := "scalarSets", unfollowed := true, recurses := true, apart := false }
def ScalarSetsSaid : Prop := scalarSetsRow.holds Try.pinned (OpenSpec.ofChange scalarSetsSpec)

/-- ITS FALSE NEIGHBOUR: 'it returns false'. Refute it at one input. -/
def scalarSetsWrong : ChangeSpec := { name := "scalarSets", fn := fun _ => fun
  | [d1, d2] => { results := [.lit (.bool false)], args := [d1, d2] }
  | _ => none }
def ScalarSetsWrongFalsely : Prop := scalarSetsRow.holds Try.pinned (OpenSpec.ofChange scalarSetsWrong)

/- THE SECOND FORM. 'bulk': how many values and letters a reading holds, each counted each time it is reached (what is shared counts as often as it is met; a slice's spare places count too). A statement '..UptoSaid' is the law's where the arguments, and the package variables that the reading takes, are together of bulk at most 1048576: NARROWER than '..Said'. Prove '..Said' where nothing that the law and all that it calls make is longer than what came in: it says more and counts as full. Else prove '..UptoSaid'. A law counts once. -/
mutual
def uptoBulk {H : Type} : DataW H → Nat
  | .lit (.string bytes) => bytes.length + 1
  | .lit _ => 1
  | .nil => 1
  | .ptr d => uptoBulk d + 1
  | .slice elems spare => uptoBulkAll elems + uptoBulkAll spare + 1
  | .agg parts => uptoBulkAll parts + 1
  | .iface _ d => uptoBulk d + 1
  | .map entries => uptoBulkEntries entries + 1
  | .held _ => 1
def uptoBulkAll {H : Type} : List (DataW H) → Nat
  | [] => 0
  | d :: r => uptoBulk d + uptoBulkAll r
def uptoBulkEntries {H : Type} : List (Lit × DataW H) → Nat
  | [] => 0
  | x :: r => uptoBulkEntry x + uptoBulkEntries r
def uptoBulkEntry {H : Type} : Lit × DataW H → Nat
  | (.string bytes, d) => bytes.length + uptoBulk d + 1
  | (_, d) => uptoBulk d + 1
 end
def uptoSmall : (H : Type) → List (DataW H) → Bool := fun _ ds => decide (uptoBulkAll ds ≤ 1048576)
def OpenSpec.upto (s : _root_.Go.ChangeSpec) : _root_.Go.OpenSpec := { _root_.Go.OpenSpec.ofChange s with cond := some uptoSmall }

/-- 'portcullislaw16.ScalarCasts', WHERE WHAT IT READS IS OF BULK AT MOST 1048576: true; the input reads as it did. -/
def scalarCastsUptoRow : OpenClaim := { program := "ythfblpemlpjooaa", sum := "77d0e49e6040f7f2190d12189069f0156a03ae121b71c5396610c14d5d45adb6", func := "portcullis/portcullislaw16.ScalarCasts", spec := "scalarCasts", unfollowed := true, recurses := true, apart := false, narrowed := true }
def ScalarCastsUptoSaid : Prop := scalarCastsUptoRow.holds Try.pinned (OpenSpec.upto scalarCastsSpec)

/-- 'portcullislaw16.ScalarKeeps', WHERE WHAT IT READS IS OF BULK AT MOST 1048576: true; the input reads as it did. -/
def scalarKeepsUptoRow : OpenClaim := { program := "ythfblpemlpjooaa", sum := "77d0e49e6040f7f2190d12189069f0156a03ae121b71c5396610c14d5d45adb6", func := "portcullis/portcullislaw16.ScalarKeeps", spec := "scalarKeeps", unfollowed := true, recurses := true, apart := false, narrowed := true }
def ScalarKeepsUptoSaid : Prop := scalarKeepsUptoRow.holds Try.pinned (OpenSpec.upto scalarKeepsSpec)

/-- 'portcullislaw16.ScalarTights', WHERE WHAT IT READS IS OF BULK AT MOST 1048576: true; the input reads as it did. -/
def scalarTightsUptoRow : OpenClaim := { program := "ythfblpemlpjooaa", sum := "77d0e49e6040f7f2190d12189069f0156a03ae121b71c5396610c14d5d45adb6", func := "portcullis/portcullislaw16.ScalarTights", spec := "scalarTights", unfollowed := true, recurses := true, apart := false, narrowed := true }
def ScalarTightsUptoSaid : Prop := scalarTightsUptoRow.holds Try.pinned (OpenSpec.upto scalarTightsSpec)

/-- 'portcullislaw16.ScalarSets', WHERE WHAT IT READS IS OF BULK AT MOST 1048576: true; the input reads as it did. -/
def scalarSetsUptoRow : OpenClaim := { program := "ythfblpemlpjooaa", sum := "77d0e49e6040f7f2190d12189069f0156a03ae121b71c5396610c14d5d45adb6", func := "portcullis/portcullislaw16.ScalarSets", spec := "scalarSets", unfollowed := true, recurses := true, apart := false, narrowed := true }
def ScalarSetsUptoSaid : Prop := scalarSetsUptoRow.holds Try.pinned (OpenSpec.upto scalarSetsSpec)

end Rows
end Go.Proofs.Ythfblpemlpjooaa
