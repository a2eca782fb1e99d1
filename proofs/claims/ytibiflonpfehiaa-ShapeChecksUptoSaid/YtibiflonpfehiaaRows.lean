/-
  No cell of these rows narrows 'for every input' (looked for: loops, veiled, ifaces, maps, wideKeys, modest, calm, conditions, laid).
  DERIVED. THE GIVEN ROWS OF THIS SEAT. 4 by the template 'for every input the law returns true; each argument reads behind the call as it read before'; 0 by the template 'total and deterministic' (their statements: YtibiflonpfehiaaTotals.lean).
  GIVEN WITH THE SEED: the statements are not yours to turn. If you find one false, say at which input.
  Laid BY PROGRAM, IN A SANDBOX (cutbox-rows.mjs): the forced cells as the released guide's own fill.sh prints them over the translation 5e5750c0859c4c1d… (all of the seat's roots in one cut). By AI agents, Wed Nov 11 2026. No macro, syntax, notation, axiom, sorry.
-/
import Derived.Test.YtibiflonpfehiaaChecked
import GoSem.Claim
import GoSem.ClaimJoined
import GoSem.ClaimMapViews
import Derived.JoinedTies
import Derived.KernelRfl
namespace Go.Proofs.Ytibiflonpfehiaa
/- THE CELL 'sum', in the pinned program and in every row, IS THE sha256 OF THE DUMP (.gsa) THAT YtibiflonpfehiaaProg.lean LOADS. Nothing in Lean hashes anything: it is a label: what it is worth is what the hold of that sum in a sandbox is worth. -/
noncomputable def Try.pinned : Pinned := { name := "ytibiflonpfehiaa", sum := "5e5750c0859c4c1d3a2d407e65e1c43456ec3db4b3e59023f6b72d8f10ee1fbe", checked := Try.checked }
namespace Rows
def none {H : Type} : Left H := { results := [], args := [] }

/-- 'portcullislaw05.ShapeChecks': WHATEVER THE INPUT: true; the input reads as it did. -/
def shapeChecksSpec : ChangeSpec := { name := "shapeChecks", fn := fun _ => fun
  | [d] => { results := [.lit (.bool true)], args := [d] }
  | _ => none }
def shapeChecksRow : OpenClaim := { program := "ytibiflonpfehiaa", sum := "5e5750c0859c4c1d3a2d407e65e1c43456ec3db4b3e59023f6b72d8f10ee1fbe", func := "portcullis/portcullislaw05.ShapeChecks", spec := "shapeChecks", apart := false }
def ShapeChecksSaid : Prop := shapeChecksRow.holds Try.pinned (OpenSpec.ofChange shapeChecksSpec)

/-- ITS FALSE NEIGHBOUR: 'it returns false'. Refute it at one input. -/
def shapeChecksWrong : ChangeSpec := { name := "shapeChecks", fn := fun _ => fun
  | [d] => { results := [.lit (.bool false)], args := [d] }
  | _ => none }
def ShapeChecksWrongFalsely : Prop := shapeChecksRow.holds Try.pinned (OpenSpec.ofChange shapeChecksWrong)

/-- 'portcullislaw05.ShapeNexts': WHATEVER THE INPUT: true; the input reads as it did. -/
def shapeNextsSpec : ChangeSpec := { name := "shapeNexts", fn := fun _ => fun
  | [d1, d2] => { results := [.lit (.bool true)], args := [d1, d2] }
  | _ => none }
def shapeNextsRow : OpenClaim := { program := "ytibiflonpfehiaa", sum := "5e5750c0859c4c1d3a2d407e65e1c43456ec3db4b3e59023f6b72d8f10ee1fbe", func := "portcullis/portcullislaw05.ShapeNexts", spec := "shapeNexts", apart := false }
def ShapeNextsSaid : Prop := shapeNextsRow.holds Try.pinned (OpenSpec.ofChange shapeNextsSpec)

/-- ITS FALSE NEIGHBOUR: 'it returns false'. Refute it at one input. -/
def shapeNextsWrong : ChangeSpec := { name := "shapeNexts", fn := fun _ => fun
  | [d1, d2] => { results := [.lit (.bool false)], args := [d1, d2] }
  | _ => none }
def ShapeNextsWrongFalsely : Prop := shapeNextsRow.holds Try.pinned (OpenSpec.ofChange shapeNextsWrong)

/-- 'portcullislaw05.ShapeStays': WHATEVER THE INPUT: true; the input reads as it did. -/
def shapeStaysSpec : ChangeSpec := { name := "shapeStays", fn := fun _ => fun
  | [d] => { results := [.lit (.bool true)], args := [d] }
  | _ => none }
def shapeStaysRow : OpenClaim := { program := "ytibiflonpfehiaa", sum := "5e5750c0859c4c1d3a2d407e65e1c43456ec3db4b3e59023f6b72d8f10ee1fbe", func := "portcullis/portcullislaw05.ShapeStays", spec := "shapeStays", apart := false }
def ShapeStaysSaid : Prop := shapeStaysRow.holds Try.pinned (OpenSpec.ofChange shapeStaysSpec)

/-- ITS FALSE NEIGHBOUR: 'it returns false'. Refute it at one input. -/
def shapeStaysWrong : ChangeSpec := { name := "shapeStays", fn := fun _ => fun
  | [d] => { results := [.lit (.bool false)], args := [d] }
  | _ => none }
def ShapeStaysWrongFalsely : Prop := shapeStaysRow.holds Try.pinned (OpenSpec.ofChange shapeStaysWrong)

/-- 'portcullislaw05.ShapeTails': WHATEVER THE INPUT: true; the input reads as it did. -/
def shapeTailsSpec : ChangeSpec := { name := "shapeTails", fn := fun _ => fun
  | [d] => { results := [.lit (.bool true)], args := [d] }
  | _ => none }
def shapeTailsRow : OpenClaim := { program := "ytibiflonpfehiaa", sum := "5e5750c0859c4c1d3a2d407e65e1c43456ec3db4b3e59023f6b72d8f10ee1fbe", func := "portcullis/portcullislaw05.ShapeTails", spec := "shapeTails", apart := false }
def ShapeTailsSaid : Prop := shapeTailsRow.holds Try.pinned (OpenSpec.ofChange shapeTailsSpec)

/-- ITS FALSE NEIGHBOUR: 'it returns false'. Refute it at one input. -/
def shapeTailsWrong : ChangeSpec := { name := "shapeTails", fn := fun _ => fun
  | [d] => { results := [.lit (.bool false)], args := [d] }
  | _ => none }
def ShapeTailsWrongFalsely : Prop := shapeTailsRow.holds Try.pinned (OpenSpec.ofChange shapeTailsWrong)

/- THE SECOND FORM. 'bulk': how many values and letters a reading holds, each counted each time it is reached (what is shared counts as often as it is met; a slice's spare places count too). A statement '..UptoSaid' is the law's where the arguments, and the package variables that the reading takes, are together of bulk at most 1048576: NARROWER than '..Said'. Prove '..Said' where nothing that the law and all that it calls make is longer than what came in: it says more and counts as full. Else prove '..UptoSaid'. A law counts once. -/
mutual
def uptoBulk {H : Type} : DataW H → Nat
  | .lit (.string bytes) => bytes.length + 1
  | .lit _ => 1
  | .nil => 1
  | .ptr d => uptoBulk d + 1
  | .slice elems spare => uptoBulkAll elems + uptoBulkAll spare + 1
  | .agg parts => uptoBulkAll parts + 1
  | .iface _ d => uptoBulk d + 1
  | .map entries => uptoBulkEntries entries + 1
  | .held _ => 1
def uptoBulkAll {H : Type} : List (DataW H) → Nat
  | [] => 0
  | d :: r => uptoBulk d + uptoBulkAll r
def uptoBulkEntries {H : Type} : List (Lit × DataW H) → Nat
  | [] => 0
  | x :: r => uptoBulkEntry x + uptoBulkEntries r
def uptoBulkEntry {H : Type} : Lit × DataW H → Nat
  | (.string bytes, d) => bytes.length + uptoBulk d + 1
  | (_, d) => uptoBulk d + 1
 end
def uptoSmall : (H : Type) → List (DataW H) → Bool := fun _ ds => decide (uptoBulkAll ds ≤ 1048576)
def OpenSpec.upto (s : _root_.Go.ChangeSpec) : _root_.Go.OpenSpec := { _root_.Go.OpenSpec.ofChange s with cond := some uptoSmall }

/-- 'portcullislaw05.ShapeChecks', WHERE WHAT IT READS IS OF BULK AT MOST 1048576: true; the input reads as it did. -/
def shapeChecksUptoRow : OpenClaim := { program := "ytibiflonpfehiaa", sum := "5e5750c0859c4c1d3a2d407e65e1c43456ec3db4b3e59023f6b72d8f10ee1fbe", func := "portcullis/portcullislaw05.ShapeChecks", spec := "shapeChecks", apart := false, narrowed := true }
def ShapeChecksUptoSaid : Prop := shapeChecksUptoRow.holds Try.pinned (OpenSpec.upto shapeChecksSpec)

/-- 'portcullislaw05.ShapeNexts', WHERE WHAT IT READS IS OF BULK AT MOST 1048576: true; the input reads as it did. -/
def shapeNextsUptoRow : OpenClaim := { program := "ytibiflonpfehiaa", sum := "5e5750c0859c4c1d3a2d407e65e1c43456ec3db4b3e59023f6b72d8f10ee1fbe", func := "portcullis/portcullislaw05.ShapeNexts", spec := "shapeNexts", apart := false, narrowed := true }
def ShapeNextsUptoSaid : Prop := shapeNextsUptoRow.holds Try.pinned (OpenSpec.upto shapeNextsSpec)

/-- 'portcullislaw05.ShapeStays', WHERE WHAT IT READS IS OF BULK AT MOST 1048576: true; the input reads as it did. -/
def shapeStaysUptoRow : OpenClaim := { program := "ytibiflonpfehiaa", sum := "5e5750c0859c4c1d3a2d407e65e1c43456ec3db4b3e59023f6b72d8f10ee1fbe", func := "portcullis/portcullislaw05.ShapeStays", spec := "shapeStays", apart := false, narrowed := true }
def ShapeStaysUptoSaid : Prop := shapeStaysUptoRow.holds Try.pinned (OpenSpec.upto shapeStaysSpec)

/-- 'portcullislaw05.ShapeTails', WHERE WHAT IT READS IS OF BULK AT MOST 1048576: true; the input reads as it did. -/
def shapeTailsUptoRow : OpenClaim := { program := "ytibiflonpfehiaa", sum := "5e5750c0859c4c1d3a2d407e65e1c43456ec3db4b3e59023f6b72d8f10ee1fbe", func := "portcullis/portcullislaw05.ShapeTails", spec := "shapeTails", apart := false, narrowed := true }
def ShapeTailsUptoSaid : Prop := shapeTailsUptoRow.holds Try.pinned (OpenSpec.upto shapeTailsSpec)

end Rows
end Go.Proofs.Ytibiflonpfehiaa
