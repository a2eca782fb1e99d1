/-
  No cell of these rows narrows 'for every input' (looked for: loops, veiled, ifaces, maps, wideKeys, modest, calm, conditions, laid).
  DERIVED. THE GIVEN ROWS OF THIS SEAT. 5 by the template 'for every input the law returns true; each argument reads behind the call as it read before'; 0 by the template 'total and deterministic' (their statements: YtkhnkgdmcfpcjaaTotals.lean).
  GIVEN WITH THE SEED: the statements are not yours to turn. If you find one false, say at which input.
  Laid BY PROGRAM, IN A SANDBOX (cutbox-rows.mjs): the forced cells as the released guide's own fill.sh prints them over the translation ee0968a97eb54d60… (all of the seat's roots in one cut). By AI agents, Wed Nov 11 2026. No macro, syntax, notation, axiom, sorry.
-/
import Derived.Test.YtkhnkgdmcfpcjaaChecked
import GoSem.Claim
import GoSem.ClaimJoined
import GoSem.ClaimMapViews
import Derived.JoinedTies
import Derived.KernelRfl
namespace Go.Proofs.Ytkhnkgdmcfpcjaa
/- THE CELL 'sum', in the pinned program and in every row, IS THE sha256 OF THE DUMP (.gsa) THAT YtkhnkgdmcfpcjaaProg.lean LOADS. Nothing in Lean hashes anything: it is a label: what it is worth is what the hold of that sum in a sandbox is worth. -/
noncomputable def Try.pinned : Pinned := { name := "ytkhnkgdmcfpcjaa", sum := "ee0968a97eb54d60ae8b66c6e9a29a6e6ab74bc2f222f21f37abe5a3f63ab44f", checked := Try.checked }
namespace Rows
def none {H : Type} : Left H := { results := [], args := [] }

/-- 'portcullislaw03.InsnEncodes': WHATEVER THE INPUT: true; the input reads as it did. -/
def insnEncodesSpec : ChangeSpec := { name := "insnEncodes", fn := fun _ => fun
  | [d1, d2] => { results := [.lit (.bool true)], args := [d1, d2] }
  | _ => none }
def insnEncodesRow : OpenClaim := { program := "ytkhnkgdmcfpcjaa", sum := "ee0968a97eb54d60ae8b66c6e9a29a6e6ab74bc2f222f21f37abe5a3f63ab44f", func := "portcullis/portcullislaw03.InsnEncodes", spec := "insnEncodes", apart := false }
def InsnEncodesSaid : Prop := insnEncodesRow.holds Try.pinned (OpenSpec.ofChange insnEncodesSpec)

/-- ITS FALSE NEIGHBOUR: 'it returns false'. Refute it at one input. -/
def insnEncodesWrong : ChangeSpec := { name := "insnEncodes", fn := fun _ => fun
  | [d1, d2] => { results := [.lit (.bool false)], args := [d1, d2] }
  | _ => none }
def InsnEncodesWrongFalsely : Prop := insnEncodesRow.holds Try.pinned (OpenSpec.ofChange insnEncodesWrong)

/-- 'portcullislaw03.InsnBack': WHATEVER THE INPUT: true; the input reads as it did. -/
def insnBackSpec : ChangeSpec := { name := "insnBack", fn := fun _ => fun
  | [d1, d2] => { results := [.lit (.bool true)], args := [d1, d2] }
  | _ => none }
def insnBackRow : OpenClaim := { program := "ytkhnkgdmcfpcjaa", sum := "ee0968a97eb54d60ae8b66c6e9a29a6e6ab74bc2f222f21f37abe5a3f63ab44f", func := "portcullis/portcullislaw03.InsnBack", spec := "insnBack", apart := false }
def InsnBackSaid : Prop := insnBackRow.holds Try.pinned (OpenSpec.ofChange insnBackSpec)

/-- ITS FALSE NEIGHBOUR: 'it returns false'. Refute it at one input. -/
def insnBackWrong : ChangeSpec := { name := "insnBack", fn := fun _ => fun
  | [d1, d2] => { results := [.lit (.bool false)], args := [d1, d2] }
  | _ => none }
def InsnBackWrongFalsely : Prop := insnBackRow.holds Try.pinned (OpenSpec.ofChange insnBackWrong)

/-- 'portcullislaw03.InsnWides': WHATEVER THE INPUT: true; the input reads as it did. -/
def insnWidesSpec : ChangeSpec := { name := "insnWides", fn := fun _ => fun
  | [d1, d2, d3] => { results := [.lit (.bool true)], args := [d1, d2, d3] }
  | _ => none }
def insnWidesRow : OpenClaim := { program := "ytkhnkgdmcfpcjaa", sum := "ee0968a97eb54d60ae8b66c6e9a29a6e6ab74bc2f222f21f37abe5a3f63ab44f", func := "portcullis/portcullislaw03.InsnWides", spec := "insnWides", apart := false }
def InsnWidesSaid : Prop := insnWidesRow.holds Try.pinned (OpenSpec.ofChange insnWidesSpec)

/-- ITS FALSE NEIGHBOUR: 'it returns false'. Refute it at one input. -/
def insnWidesWrong : ChangeSpec := { name := "insnWides", fn := fun _ => fun
  | [d1, d2, d3] => { results := [.lit (.bool false)], args := [d1, d2, d3] }
  | _ => none }
def InsnWidesWrongFalsely : Prop := insnWidesRow.holds Try.pinned (OpenSpec.ofChange insnWidesWrong)

/-- 'portcullislaw03.InsnPieces': WHATEVER THE INPUT: true; the input reads as it did. -/
def insnPiecesSpec : ChangeSpec := { name := "insnPieces", fn := fun _ => fun
  | [d1, d2] => { results := [.lit (.bool true)], args := [d1, d2] }
  | _ => none }
def insnPiecesRow : OpenClaim := { program := "ytkhnkgdmcfpcjaa", sum := "ee0968a97eb54d60ae8b66c6e9a29a6e6ab74bc2f222f21f37abe5a3f63ab44f", func := "portcullis/portcullislaw03.InsnPieces", spec := "insnPieces", apart := false }
def InsnPiecesSaid : Prop := insnPiecesRow.holds Try.pinned (OpenSpec.ofChange insnPiecesSpec)

/-- ITS FALSE NEIGHBOUR: 'it returns false'. Refute it at one input. -/
def insnPiecesWrong : ChangeSpec := { name := "insnPieces", fn := fun _ => fun
  | [d1, d2] => { results := [.lit (.bool false)], args := [d1, d2] }
  | _ => none }
def InsnPiecesWrongFalsely : Prop := insnPiecesRow.holds Try.pinned (OpenSpec.ofChange insnPiecesWrong)

/-- 'portcullislaw03.InsnFields': WHATEVER THE INPUT: true; the input reads as it did. -/
def insnFieldsSpec : ChangeSpec := { name := "insnFields", fn := fun _ => fun
  | [d1, d2, d3] => { results := [.lit (.bool true)], args := [d1, d2, d3] }
  | _ => none }
def insnFieldsRow : OpenClaim := { program := "ytkhnkgdmcfpcjaa", sum := "ee0968a97eb54d60ae8b66c6e9a29a6e6ab74bc2f222f21f37abe5a3f63ab44f", func := "portcullis/portcullislaw03.InsnFields", spec := "insnFields", apart := false }
def InsnFieldsSaid : Prop := insnFieldsRow.holds Try.pinned (OpenSpec.ofChange insnFieldsSpec)

/-- ITS FALSE NEIGHBOUR: 'it returns false'. Refute it at one input. -/
def insnFieldsWrong : ChangeSpec := { name := "insnFields", fn := fun _ => fun
  | [d1, d2, d3] => { results := [.lit (.bool false)], args := [d1, d2, d3] }
  | _ => none }
def InsnFieldsWrongFalsely : Prop := insnFieldsRow.holds Try.pinned (OpenSpec.ofChange insnFieldsWrong)

/- THE SECOND FORM. 'bulk': how many values and letters a reading holds, each counted each time it is reached (what is shared counts as often as it is met; a slice's spare places count too). A statement '..UptoSaid' is the law's where the arguments, and the package variables that the reading takes, are together of bulk at most 1048576: NARROWER than '..Said'. Prove '..Said' where nothing that the law and all that it calls make is longer than what came in: it says more and counts as full. Else prove '..UptoSaid'. A law counts once. -/
mutual
def uptoBulk {H : Type} : DataW H → Nat
  | .lit (.string bytes) => bytes.length + 1
  | .lit _ => 1
  | .nil => 1
  | .ptr d => uptoBulk d + 1
  | .slice elems spare => uptoBulkAll elems + uptoBulkAll spare + 1
  | .agg parts => uptoBulkAll parts + 1
  | .iface _ d => uptoBulk d + 1
  | .map entries => uptoBulkEntries entries + 1
  | .held _ => 1
def uptoBulkAll {H : Type} : List (DataW H) → Nat
  | [] => 0
  | d :: r => uptoBulk d + uptoBulkAll r
def uptoBulkEntries {H : Type} : List (Lit × DataW H) → Nat
  | [] => 0
  | x :: r => uptoBulkEntry x + uptoBulkEntries r
def uptoBulkEntry {H : Type} : Lit × DataW H → Nat
  | (.string bytes, d) => bytes.length + uptoBulk d + 1
  | (_, d) => uptoBulk d + 1
 end
def uptoSmall : (H : Type) → List (DataW H) → Bool := fun _ ds => decide (uptoBulkAll ds ≤ 1048576)
def OpenSpec.upto (s : _root_.Go.ChangeSpec) : _root_.Go.OpenSpec := { _root_.Go.OpenSpec.ofChange s with cond := some uptoSmall }

/-- 'portcullislaw03.InsnEncodes', WHERE WHAT IT READS IS OF BULK AT MOST 1048576: true; the input reads as it did. -/
def insnEncodesUptoRow : OpenClaim := { program := "ytkhnkgdmcfpcjaa", sum := "ee0968a97eb54d60ae8b66c6e9a29a6e6ab74bc2f222f21f37abe5a3f63ab44f", func := "portcullis/portcullislaw03.InsnEncodes", spec := "insnEncodes", apart := false, narrowed := true }
def InsnEncodesUptoSaid : Prop := insnEncodesUptoRow.holds Try.pinned (OpenSpec.upto insnEncodesSpec)

/-- 'portcullislaw03.InsnBack', WHERE WHAT IT READS IS OF BULK AT MOST 1048576: true; the input reads as it did. -/
def insnBackUptoRow : OpenClaim := { program := "ytkhnkgdmcfpcjaa", sum := "ee0968a97eb54d60ae8b66c6e9a29a6e6ab74bc2f222f21f37abe5a3f63ab44f", func := "portcullis/portcullislaw03.InsnBack", spec := "insnBack", apart := false, narrowed := true }
def InsnBackUptoSaid : Prop := insnBackUptoRow.holds Try.pinned (OpenSpec.upto insnBackSpec)

/-- 'portcullislaw03.InsnWides', WHERE WHAT IT READS IS OF BULK AT MOST 1048576: true; the input reads as it did. -/
def insnWidesUptoRow : OpenClaim := { program := "ytkhnkgdmcfpcjaa", sum := "ee0968a97eb54d60ae8b66c6e9a29a6e6ab74bc2f222f21f37abe5a3f63ab44f", func := "portcullis/portcullislaw03.InsnWides", spec := "insnWides", apart := false, narrowed := true }
def InsnWidesUptoSaid : Prop := insnWidesUptoRow.holds Try.pinned (OpenSpec.upto insnWidesSpec)

/-- 'portcullislaw03.InsnPieces', WHERE WHAT IT READS IS OF BULK AT MOST 1048576: true; the input reads as it did. -/
def insnPiecesUptoRow : OpenClaim := { program := "ytkhnkgdmcfpcjaa", sum := "ee0968a97eb54d60ae8b66c6e9a29a6e6ab74bc2f222f21f37abe5a3f63ab44f", func := "portcullis/portcullislaw03.InsnPieces", spec := "insnPieces", apart := false, narrowed := true }
def InsnPiecesUptoSaid : Prop := insnPiecesUptoRow.holds Try.pinned (OpenSpec.upto insnPiecesSpec)

/-- 'portcullislaw03.InsnFields', WHERE WHAT IT READS IS OF BULK AT MOST 1048576: true; the input reads as it did. -/
def insnFieldsUptoRow : OpenClaim := { program := "ytkhnkgdmcfpcjaa", sum := "ee0968a97eb54d60ae8b66c6e9a29a6e6ab74bc2f222f21f37abe5a3f63ab44f", func := "portcullis/portcullislaw03.InsnFields", spec := "insnFields", apart := false, narrowed := true }
def InsnFieldsUptoSaid : Prop := insnFieldsUptoRow.holds Try.pinned (OpenSpec.upto insnFieldsSpec)

end Rows
end Go.Proofs.Ytkhnkgdmcfpcjaa
