/-
  No cell of these rows narrows 'for every input' (looked for: loops, veiled, ifaces, maps, wideKeys, modest, calm, conditions, laid).
  DERIVED. THE GIVEN ROWS OF THIS SEAT. 4 by the template 'for every input the law returns true; each argument reads behind the call as it read before'; 0 by the template 'total and deterministic' (their statements: YtjnbpklllapjiaaTotals.lean).
  GIVEN WITH THE SEED: the statements are not yours to turn. If you find one false, say at which input.
  Laid BY PROGRAM, IN A SANDBOX (cutbox-rows.mjs): the forced cells as the released guide's own fill.sh prints them over the translation 8850cfdc44f5a943… (all of the seat's roots in one cut). By AI agents, Wed Nov 11 2026. No macro, syntax, notation, axiom, sorry.
-/
import Derived.Test.YtjnbpklllapjiaaChecked
import GoSem.Claim
import GoSem.ClaimJoined
import GoSem.ClaimMapViews
import Derived.JoinedTies
import Derived.KernelRfl
namespace Go.Proofs.Ytjnbpklllapjiaa
/- THE CELL 'sum', in the pinned program and in every row, IS THE sha256 OF THE DUMP (.gsa) THAT YtjnbpklllapjiaaProg.lean LOADS. Nothing in Lean hashes anything: it is a label: what it is worth is what the hold of that sum in a sandbox is worth. -/
noncomputable def Try.pinned : Pinned := { name := "ytjnbpklllapjiaa", sum := "8850cfdc44f5a943f44cf2d34de0afd6e967fcf6472f774dcfaf5511d194ac3e", checked := Try.checked }
namespace Rows
def none {H : Type} : Left H := { results := [], args := [] }

/-- 'portcullislaw18.StateCovers': WHATEVER THE INPUT: true; the input reads as it did. -/
def stateCoversSpec : ChangeSpec := { name := "stateCovers", fn := fun _ => fun
  | [d1, d2] => { results := [.lit (.bool true)], args := [d1, d2] }
  | _ => none }
def stateCoversRow : OpenClaim := { program := "ytjnbpklllapjiaa", sum := "8850cfdc44f5a943f44cf2d34de0afd6e967fcf6472f774dcfaf5511d194ac3e", func := "portcullis/portcullislaw18.StateCovers", spec := "stateCovers", unfollowed := true, recurses := true, apart := false }
def StateCoversSaid : Prop := stateCoversRow.holds Try.pinned (OpenSpec.ofChange stateCoversSpec)

/-- ITS FALSE NEIGHBOUR: 'it returns false'. Refute it at one input. -/
def stateCoversWrong : ChangeSpec := { name := "stateCovers", fn := fun _ => fun
  | [d1, d2] => { results := [.lit (.bool false)], args := [d1, d2] }
  | _ => none }
def StateCoversWrongFalsely : Prop := stateCoversRow.holds Try.pinned (OpenSpec.ofChange stateCoversWrong)

/-- 'portcullislaw18.StateSelf': WHATEVER THE INPUT: true; the input reads as it did. -/
def stateSelfSpec : ChangeSpec := { name := "stateSelf", fn := fun _ => fun
  | [d] => { results := [.lit (.bool true)], args := [d] }
  | _ => none }
def stateSelfRow : OpenClaim := { program := "ytjnbpklllapjiaa", sum := "8850cfdc44f5a943f44cf2d34de0afd6e967fcf6472f774dcfaf5511d194ac3e", func := "portcullis/portcullislaw18.StateSelf", spec := "stateSelf", unfollowed := true, recurses := true, apart := false }
def StateSelfSaid : Prop := stateSelfRow.holds Try.pinned (OpenSpec.ofChange stateSelfSpec)

/-- ITS FALSE NEIGHBOUR: 'it returns false'. Refute it at one input. -/
def stateSelfWrong : ChangeSpec := { name := "stateSelf", fn := fun _ => fun
  | [d] => { results := [.lit (.bool false)], args := [d] }
  | _ => none }
def StateSelfWrongFalsely : Prop := stateSelfRow.holds Try.pinned (OpenSpec.ofChange stateSelfWrong)

/-- 'portcullislaw18.StateLess': WHATEVER THE INPUT: true; the input reads as it did. -/
def stateLessSpec : ChangeSpec := { name := "stateLess", fn := fun _ => fun
  | [d1, d2, d3] => { results := [.lit (.bool true)], args := [d1, d2, d3] }
  | _ => none }
def stateLessRow : OpenClaim := { program := "ytjnbpklllapjiaa", sum := "8850cfdc44f5a943f44cf2d34de0afd6e967fcf6472f774dcfaf5511d194ac3e", func := "portcullis/portcullislaw18.StateLess", spec := "stateLess", unfollowed := true, recurses := true, apart := false }
def StateLessSaid : Prop := stateLessRow.holds Try.pinned (OpenSpec.ofChange stateLessSpec)

/-- ITS FALSE NEIGHBOUR: 'it returns false'. Refute it at one input. -/
def stateLessWrong : ChangeSpec := { name := "stateLess", fn := fun _ => fun
  | [d1, d2, d3] => { results := [.lit (.bool false)], args := [d1, d2, d3] }
  | _ => none }
def StateLessWrongFalsely : Prop := stateLessRow.holds Try.pinned (OpenSpec.ofChange stateLessWrong)

/-- 'portcullislaw18.StateChanges': WHATEVER THE INPUT: true; the input reads as it did. -/
def stateChangesSpec : ChangeSpec := { name := "stateChanges", fn := fun _ => fun
  | [d1, d2, d3] => { results := [.lit (.bool true)], args := [d1, d2, d3] }
  | _ => none }
def stateChangesRow : OpenClaim := { program := "ytjnbpklllapjiaa", sum := "8850cfdc44f5a943f44cf2d34de0afd6e967fcf6472f774dcfaf5511d194ac3e", func := "portcullis/portcullislaw18.StateChanges", spec := "stateChanges", unfollowed := true, recurses := true, apart := false }
def StateChangesSaid : Prop := stateChangesRow.holds Try.pinned (OpenSpec.ofChange stateChangesSpec)

/-- ITS FALSE NEIGHBOUR: 'it returns false'. Refute it at one input. -/
def stateChangesWrong : ChangeSpec := { name := "stateChanges", fn := fun _ => fun
  | [d1, d2, d3] => { results := [.lit (.bool false)], args := [d1, d2, d3] }
  | _ => none }
def StateChangesWrongFalsely : Prop := stateChangesRow.holds Try.pinned (OpenSpec.ofChange stateChangesWrong)

/- THE SECOND FORM. 'bulk': how many values and letters a reading holds, each counted each time it is reached (what is shared counts as often as it is met; a slice's spare places count too). A statement '..UptoSaid' is the law's where the arguments, and the package variables that the reading takes, are together of bulk at most 1048576: NARROWER than '..Said'. Prove '..Said' where nothing that the law and all that it calls make is longer than what came in: it says more and counts as full. Else prove '..UptoSaid'. A law counts once. -/
mutual
def uptoBulk {H : Type} : DataW H → Nat
  | .lit (.string bytes) => bytes.length + 1
  | .lit _ => 1
  | .nil => 1
  | .ptr d => uptoBulk d + 1
  | .slice elems spare => uptoBulkAll elems + uptoBulkAll spare + 1
  | .agg parts => uptoBulkAll parts + 1
  | .iface _ d => uptoBulk d + 1
  | .map entries => uptoBulkEntries entries + 1
  | .held _ => 1
def uptoBulkAll {H : Type} : List (DataW H) → Nat
  | [] => 0
  | d :: r => uptoBulk d + uptoBulkAll r
def uptoBulkEntries {H : Type} : List (Lit × DataW H) → Nat
  | [] => 0
  | x :: r => uptoBulkEntry x + uptoBulkEntries r
def uptoBulkEntry {H : Type} : Lit × DataW H → Nat
  | (.string bytes, d) => bytes.length + uptoBulk d + 1
  | (_, d) => uptoBulk d + 1
 end
def uptoSmall : (H : Type) → List (DataW H) → Bool := fun _ ds => decide (uptoBulkAll ds ≤ 1048576)
def OpenSpec.upto (s : _root_.Go.ChangeSpec) : _root_.Go.OpenSpec := { _root_.Go.OpenSpec.ofChange s with cond := some uptoSmall }

/-- 'portcullislaw18.StateCovers', WHERE WHAT IT READS IS OF BULK AT MOST 1048576: true; the input reads as it did. -/
def stateCoversUptoRow : OpenClaim := { program := "ytjnbpklllapjiaa", sum := "8850cfdc44f5a943f44cf2d34de0afd6e967fcf6472f774dcfaf5511d194ac3e", func := "portcullis/portcullislaw18.StateCovers", spec := "stateCovers", unfollowed := true, recurses := true, apart := false, narrowed := true }
def StateCoversUptoSaid : Prop := stateCoversUptoRow.holds Try.pinned (OpenSpec.upto stateCoversSpec)

/-- 'portcullislaw18.StateSelf', WHERE WHAT IT READS IS OF BULK AT MOST 1048576: true; the input reads as it did. -/
def stateSelfUptoRow : OpenClaim := { program := "ytjnbpklllapjiaa", sum := "8850cfdc44f5a943f44cf2d34de0afd6e967fcf6472f774dcfaf5511d194ac3e", func := "portcullis/portcullislaw18.StateSelf", spec := "stateSelf", unfollowed := true, recurses := true, apart := false, narrowed := true }
def StateSelfUptoSaid : Prop := stateSelfUptoRow.holds Try.pinned (OpenSpec.upto stateSelfSpec)

/-- 'portcullislaw18.StateLess', WHERE WHAT IT READS IS OF BULK AT MOST 1048576: true; the input reads as it did. -/
def stateLessUptoRow : OpenClaim := { program := "ytjnbpklllapjiaa", sum := "8850cfdc44f5a943f44cf2d34de0afd6e967fcf6472f774dcfaf5511d194ac3e", func := "portcullis/portcullislaw18.StateLess", spec := "stateLess", unfollowed := true, recurses := true, apart := false, narrowed := true }
def StateLessUptoSaid : Prop := stateLessUptoRow.holds Try.pinned (OpenSpec.upto stateLessSpec)

/-- 'portcullislaw18.StateChanges', WHERE WHAT IT READS IS OF BULK AT MOST 1048576: true; the input reads as it did. -/
def stateChangesUptoRow : OpenClaim := { program := "ytjnbpklllapjiaa", sum := "8850cfdc44f5a943f44cf2d34de0afd6e967fcf6472f774dcfaf5511d194ac3e", func := "portcullis/portcullislaw18.StateChanges", spec := "stateChanges", unfollowed := true, recurses := true, apart := false, narrowed := true }
def StateChangesUptoSaid : Prop := stateChangesUptoRow.holds Try.pinned (OpenSpec.upto stateChangesSpec)

end Rows
end Go.Proofs.Ytjnbpklllapjiaa
