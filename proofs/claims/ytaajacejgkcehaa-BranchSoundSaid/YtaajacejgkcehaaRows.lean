/-
  No cell of these rows narrows 'for every input' (looked for: loops, veiled, ifaces, maps, wideKeys, modest, calm, conditions, laid).
  DERIVED. THE GIVEN ROWS OF THIS SEAT. 4 by the template 'for every input the law returns true; each argument reads behind the call as it read before'; 0 by the template 'total and deterministic' (their statements: YtaajacejgkcehaaTotals.lean).
  GIVEN WITH THE SEED: the statements are not yours to turn. If you find one false, say at which input.
  Laid BY PROGRAM, IN A SANDBOX (cutbox-rows.mjs): the forced cells as the released guide's own fill.sh prints them over the translation 08a4eae67d54207b… (all of the seat's roots in one cut). By AI agents, Wed Nov 11 2026. No macro, syntax, notation, axiom, sorry.
-/
import Derived.Test.YtaajacejgkcehaaChecked
import GoSem.Claim
import GoSem.ClaimJoined
import GoSem.ClaimMapViews
import Derived.JoinedTies
import Derived.KernelRfl
namespace Go.Proofs.Ytaajacejgkcehaa
/- THE CELL 'sum', in the pinned program and in every row, IS THE sha256 OF THE DUMP (.gsa) THAT YtaajacejgkcehaaProg.lean LOADS. Nothing in Lean hashes anything: it is a label: what it is worth is what the hold of that sum in a sandbox is worth. -/
noncomputable def Try.pinned : Pinned := { name := "ytaajacejgkcehaa", sum := "08a4eae67d54207b8b6b58bcd324fe38f747fa1a88b3784cc04ca199c0d690ec", checked := Try.checked }
namespace Rows
def none {H : Type} : Left H := { results := [], args := [] }

/-- 'portcullislaw17.BranchRefines': WHATEVER THE INPUT: true; the input reads as it did. -/
def branchRefinesSpec : ChangeSpec := { name := "branchRefines", fn := fun _ => fun
  | [d1, d2, d3] => { results := [.lit (.bool true)], args := [d1, d2, d3] }
  | _ => none }
def branchRefinesRow : OpenClaim := { program := "ytaajacejgkcehaa", sum := "08a4eae67d54207b8b6b58bcd324fe38f747fa1a88b3784cc04ca199c0d690ec", func := "portcullis/portcullislaw17.BranchRefines", spec := "branchRefines", apart := false }
def BranchRefinesSaid : Prop := branchRefinesRow.holds Try.pinned (OpenSpec.ofChange branchRefinesSpec)

/-- ITS FALSE NEIGHBOUR: 'it returns false'. Refute it at one input. -/
def branchRefinesWrong : ChangeSpec := { name := "branchRefines", fn := fun _ => fun
  | [d1, d2, d3] => { results := [.lit (.bool false)], args := [d1, d2, d3] }
  | _ => none }
def BranchRefinesWrongFalsely : Prop := branchRefinesRow.holds Try.pinned (OpenSpec.ofChange branchRefinesWrong)

/-- 'portcullislaw17.BranchSound': WHATEVER THE INPUT: true; the input reads as it did. -/
def branchSoundSpec : ChangeSpec := { name := "branchSound", fn := fun _ => fun
  | [d1, d2, d3] => { results := [.lit (.bool true)], args := [d1, d2, d3] }
  | _ => none }
def branchSoundRow : OpenClaim := { program := "ytaajacejgkcehaa", sum := "08a4eae67d54207b8b6b58bcd324fe38f747fa1a88b3784cc04ca199c0d690ec", func := "portcullis/portcullislaw17.BranchSound", spec := "branchSound", apart := false }
def BranchSoundSaid : Prop := branchSoundRow.holds Try.pinned (OpenSpec.ofChange branchSoundSpec)

/-- ITS FALSE NEIGHBOUR: 'it returns false'. Refute it at one input. -/
def branchSoundWrong : ChangeSpec := { name := "branchSound", fn := fun _ => fun
  | [d1, d2, d3] => { results := [.lit (.bool false)], args := [d1, d2, d3] }
  | _ => none }
def BranchSoundWrongFalsely : Prop := branchSoundRow.holds Try.pinned (OpenSpec.ofChange branchSoundWrong)

/-- 'portcullislaw17.BranchAlways': WHATEVER THE INPUT: true; the input reads as it did. -/
def branchAlwaysSpec : ChangeSpec := { name := "branchAlways", fn := fun _ => fun
  | [d1, d2, d3] => { results := [.lit (.bool true)], args := [d1, d2, d3] }
  | _ => none }
def branchAlwaysRow : OpenClaim := { program := "ytaajacejgkcehaa", sum := "08a4eae67d54207b8b6b58bcd324fe38f747fa1a88b3784cc04ca199c0d690ec", func := "portcullis/portcullislaw17.BranchAlways", spec := "branchAlways", apart := false }
def BranchAlwaysSaid : Prop := branchAlwaysRow.holds Try.pinned (OpenSpec.ofChange branchAlwaysSpec)

/-- ITS FALSE NEIGHBOUR: 'it returns false'. Refute it at one input. -/
def branchAlwaysWrong : ChangeSpec := { name := "branchAlways", fn := fun _ => fun
  | [d1, d2, d3] => { results := [.lit (.bool false)], args := [d1, d2, d3] }
  | _ => none }
def BranchAlwaysWrongFalsely : Prop := branchAlwaysRow.holds Try.pinned (OpenSpec.ofChange branchAlwaysWrong)

/-- 'portcullislaw17.BranchNarrows': WHATEVER THE INPUT: true; the input reads as it did. -/
def branchNarrowsSpec : ChangeSpec := { name := "branchNarrows", fn := fun _ => fun
  | [d1, d2, d3] => { results := [.lit (.bool true)], args := [d1, d2, d3] }
  | _ => none }
def branchNarrowsRow : OpenClaim := { program := "ytaajacejgkcehaa", sum := "08a4eae67d54207b8b6b58bcd324fe38f747fa1a88b3784cc04ca199c0d690ec", func := "portcullis/portcullislaw17.BranchNarrows", spec := "branchNarrows", apart := false }
def BranchNarrowsSaid : Prop := branchNarrowsRow.holds Try.pinned (OpenSpec.ofChange branchNarrowsSpec)

/-- ITS FALSE NEIGHBOUR: 'it returns false'. Refute it at one input. -/
def branchNarrowsWrong : ChangeSpec := { name := "branchNarrows", fn := fun _ => fun
  | [d1, d2, d3] => { results := [.lit (.bool false)], args := [d1, d2, d3] }
  | _ => none }
def BranchNarrowsWrongFalsely : Prop := branchNarrowsRow.holds Try.pinned (OpenSpec.ofChange branchNarrowsWrong)

/- THE SECOND FORM. 'bulk': how many values and letters a reading holds, each counted each time it is reached (what is shared counts as often as it is met; a slice's spare places count too). A statement '..UptoSaid' is the law's where the arguments, and the package variables that the reading takes, are together of bulk at most 1048576: NARROWER than '..Said'. Prove '..Said' where nothing that the law and all that it calls make is longer than what came in: it says more and counts as full. Else prove '..UptoSaid'. A law counts once. -/
mutual
def uptoBulk {H : Type} : DataW H → Nat
  | .lit (.string bytes) => bytes.length + 1
  | .lit _ => 1
  | .nil => 1
  | .ptr d => uptoBulk d + 1
  | .slice elems spare => uptoBulkAll elems + uptoBulkAll spare + 1
  | .agg parts => uptoBulkAll parts + 1
  | .iface _ d => uptoBulk d + 1
  | .map entries => uptoBulkEntries entries + 1
  | .held _ => 1
def uptoBulkAll {H : Type} : List (DataW H) → Nat
  | [] => 0
  | d :: r => uptoBulk d + uptoBulkAll r
def uptoBulkEntries {H : Type} : List (Lit × DataW H) → Nat
  | [] => 0
  | x :: r => uptoBulkEntry x + uptoBulkEntries r
def uptoBulkEntry {H : Type} : Lit × DataW H → Nat
  | (.string bytes, d) => bytes.length + uptoBulk d + 1
  | (_, d) => uptoBulk d + 1
 end
def uptoSmall : (H : Type) → List (DataW H) → Bool := fun _ ds => decide (uptoBulkAll ds ≤ 1048576)
def OpenSpec.upto (s : _root_.Go.ChangeSpec) : _root_.Go.OpenSpec := { _root_.Go.OpenSpec.ofChange s with cond := some uptoSmall }

/-- 'portcullislaw17.BranchRefines', WHERE WHAT IT READS IS OF BULK AT MOST 1048576: true; the input reads as it did. -/
def branchRefinesUptoRow : OpenClaim := { program := "ytaajacejgkcehaa", sum := "08a4eae67d54207b8b6b58bcd324fe38f747fa1a88b3784cc04ca199c0d690ec", func := "portcullis/portcullislaw17.BranchRefines", spec := "branchRefines", apart := false, narrowed := true }
def BranchRefinesUptoSaid : Prop := branchRefinesUptoRow.holds Try.pinned (OpenSpec.upto branchRefinesSpec)

/-- 'portcullislaw17.BranchSound', WHERE WHAT IT READS IS OF BULK AT MOST 1048576: true; the input reads as it did. -/
def branchSoundUptoRow : OpenClaim := { program := "ytaajacejgkcehaa", sum := "08a4eae67d54207b8b6b58bcd324fe38f747fa1a88b3784cc04ca199c0d690ec", func := "portcullis/portcullislaw17.BranchSound", spec := "branchSound", apart := false, narrowed := true }
def BranchSoundUptoSaid : Prop := branchSoundUptoRow.holds Try.pinned (OpenSpec.upto branchSoundSpec)

/-- 'portcullislaw17.BranchAlways', WHERE WHAT IT READS IS OF BULK AT MOST 1048576: true; the input reads as it did. -/
def branchAlwaysUptoRow : OpenClaim := { program := "ytaajacejgkcehaa", sum := "08a4eae67d54207b8b6b58bcd324fe38f747fa1a88b3784cc04ca199c0d690ec", func := "portcullis/portcullislaw17.BranchAlways", spec := "branchAlways", apart := false, narrowed := true }
def BranchAlwaysUptoSaid : Prop := branchAlwaysUptoRow.holds Try.pinned (OpenSpec.upto branchAlwaysSpec)

/-- 'portcullislaw17.BranchNarrows', WHERE WHAT IT READS IS OF BULK AT MOST 1048576: true; the input reads as it did. -/
def branchNarrowsUptoRow : OpenClaim := { program := "ytaajacejgkcehaa", sum := "08a4eae67d54207b8b6b58bcd324fe38f747fa1a88b3784cc04ca199c0d690ec", func := "portcullis/portcullislaw17.BranchNarrows", spec := "branchNarrows", apart := false, narrowed := true }
def BranchNarrowsUptoSaid : Prop := branchNarrowsUptoRow.holds Try.pinned (OpenSpec.upto branchNarrowsSpec)

end Rows
end Go.Proofs.Ytaajacejgkcehaa
