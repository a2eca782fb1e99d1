/-
  No cell of these rows narrows 'for every input' (looked for: loops, veiled, ifaces, maps, wideKeys, modest, calm, conditions, laid).
  DERIVED. THE GIVEN ROWS OF THIS SEAT. 5 by the template 'for every input the law returns true; each argument reads behind the call as it read before'; 0 by the template 'total and deterministic' (their statements: YtlakcjlgjmeefaaGreatTotals.lean).
  GIVEN WITH THE SEED: the statements are not yours to turn. If you find one false, say at which input.
  Laid BY PROGRAM, IN A SANDBOX (cutbox-rows.mjs): the forced cells as the released guide's own fill.sh prints them over the translation 0246105a86c99a60… (all of the seat's roots in one cut). By AI agents, Wed Nov 11 2026. No macro, syntax, notation, axiom, sorry.
-/
import Derived.Test.YtlakcjlgjmeefaaGreatChecked
import GoSem.Claim
import GoSem.ClaimJoined
import GoSem.ClaimMapViews
import Derived.JoinedTies
import Derived.KernelRfl
namespace Go.Proofs.YtlakcjlgjmeefaaGreat
/- THE CELL 'sum', in the pinned program and in every row, IS THE sha256 OF THE DUMP (.gsa) THAT YtlakcjlgjmeefaaGreatProg.lean LOADS. Nothing in Lean hashes anything: it is a label: what it is worth is what the hold of that sum in a sandbox is worth. -/
noncomputable def Tryz.pinned : Pinned := { name := "ytlakcjlgjmeefaagreat", sum := "0246105a86c99a608e0bb429cb929a678809be989eebab3c52a13f60ed898413", checked := Tryz.checked }
namespace Rows
def none {H : Type} : Left H := { results := [], args := [] }

/-- 'portcullislaw21.VerifyPrograms': WHATEVER THE INPUT: true; the input reads as it did. -/
def verifyProgramsSpec : ChangeSpec := { name := "verifyPrograms", fn := fun _ => fun
  | [d1, d2, d3] => { results := [.lit (.bool true)], args := [d1, d2, d3] }
  | _ => none }
def verifyProgramsRow : OpenClaim := { program := "ytlakcjlgjmeefaagreat", sum := "0246105a86c99a608e0bb429cb929a678809be989eebab3c52a13f60ed898413", func := "portcullis/portcullislaw21.VerifyPrograms", spec := "verifyPrograms", unfollowed := true, recurses := true, apart := false }
def VerifyProgramsSaid : Prop := verifyProgramsRow.holds Tryz.pinned (OpenSpec.ofChange verifyProgramsSpec)

/-- ITS FALSE NEIGHBOUR: 'it returns false'. Refute it at one input. -/
def verifyProgramsWrong : ChangeSpec := { name := "verifyPrograms", fn := fun _ => fun
  | [d1, d2, d3] => { results := [.lit (.bool false)], args := [d1, d2, d3] }
  | _ => none }
def VerifyProgramsWrongFalsely : Prop := verifyProgramsRow.holds Tryz.pinned (OpenSpec.ofChange verifyProgramsWrong)

/-- 'portcullislaw21.VerifyEnds': WHATEVER THE INPUT: true; the input reads as it did. -/
def verifyEndsSpec : ChangeSpec := { name := "verifyEnds", fn := fun _ => fun
  | [d1, d2, d3] => { results := [.lit (.bool true)], args := [d1, d2, d3] }
  | _ => none }
def verifyEndsRow : OpenClaim := { program := "ytlakcjlgjmeefaagreat", sum := "0246105a86c99a608e0bb429cb929a678809be989eebab3c52a13f60ed898413", func := "portcullis/portcullislaw21.VerifyEnds", spec := "verifyEnds", unfollowed := true, recurses := true, apart := false }
def VerifyEndsSaid : Prop := verifyEndsRow.holds Tryz.pinned (OpenSpec.ofChange verifyEndsSpec)

/-- ITS FALSE NEIGHBOUR: 'it returns false'. Refute it at one input. -/
def verifyEndsWrong : ChangeSpec := { name := "verifyEnds", fn := fun _ => fun
  | [d1, d2, d3] => { results := [.lit (.bool false)], args := [d1, d2, d3] }
  | _ => none }
def VerifyEndsWrongFalsely : Prop := verifyEndsRow.holds Tryz.pinned (OpenSpec.ofChange verifyEndsWrong)

/-- 'portcullislaw21.VerifyMore': WHATEVER THE INPUT: true; the input reads as it did. -/
def verifyMoreSpec : ChangeSpec := { name := "verifyMore", fn := fun _ => fun
  | [d1, d2, d3] => { results := [.lit (.bool true)], args := [d1, d2, d3] }
  | _ => none }
def verifyMoreRow : OpenClaim := { program := "ytlakcjlgjmeefaagreat", sum := "0246105a86c99a608e0bb429cb929a678809be989eebab3c52a13f60ed898413", func := "portcullis/portcullislaw21.VerifyMore", spec := "verifyMore", unfollowed := true, recurses := true, apart := false }
def VerifyMoreSaid : Prop := verifyMoreRow.holds Tryz.pinned (OpenSpec.ofChange verifyMoreSpec)

/-- ITS FALSE NEIGHBOUR: 'it returns false'. Refute it at one input. -/
def verifyMoreWrong : ChangeSpec := { name := "verifyMore", fn := fun _ => fun
  | [d1, d2, d3] => { results := [.lit (.bool false)], args := [d1, d2, d3] }
  | _ => none }
def VerifyMoreWrongFalsely : Prop := verifyMoreRow.holds Tryz.pinned (OpenSpec.ofChange verifyMoreWrong)

/-- 'portcullislaw21.VerifyExits': WHATEVER THE INPUT: true; the input reads as it did. -/
def verifyExitsSpec : ChangeSpec := { name := "verifyExits", fn := fun _ => fun
  | [d] => { results := [.lit (.bool true)], args := [d] }
  | _ => none }
def verifyExitsRow : OpenClaim := { program := "ytlakcjlgjmeefaagreat", sum := "0246105a86c99a608e0bb429cb929a678809be989eebab3c52a13f60ed898413", func := "portcullis/portcullislaw21.VerifyExits", spec := "verifyExits", unfollowed := true, recurses := true, apart := false }
def VerifyExitsSaid : Prop := verifyExitsRow.holds Tryz.pinned (OpenSpec.ofChange verifyExitsSpec)

/-- ITS FALSE NEIGHBOUR: 'it returns false'. Refute it at one input. -/
def verifyExitsWrong : ChangeSpec := { name := "verifyExits", fn := fun _ => fun
  | [d] => { results := [.lit (.bool false)], args := [d] }
  | _ => none }
def VerifyExitsWrongFalsely : Prop := verifyExitsRow.holds Tryz.pinned (OpenSpec.ofChange verifyExitsWrong)

/-- 'portcullislaw21.VerifyNulls': WHATEVER THE INPUT: true; the input reads as it did. -/
def verifyNullsSpec : ChangeSpec := { name := "verifyNulls", fn := fun _ => fun
  | [d1, d2, d3] => { results := [.lit (.bool true)], args := [d1, d2, d3] }
  | _ => none }
def verifyNullsRow : OpenClaim := { program := "ytlakcjlgjmeefaagreat", sum := "0246105a86c99a608e0bb429cb929a678809be989eebab3c52a13f60ed898413", func := "portcullis/portcullislaw21.VerifyNulls", spec := "verifyNulls", unfollowed := true, recurses := true, apart := false }
def VerifyNullsSaid : Prop := verifyNullsRow.holds Tryz.pinned (OpenSpec.ofChange verifyNullsSpec)

/-- ITS FALSE NEIGHBOUR: 'it returns false'. Refute it at one input. -/
def verifyNullsWrong : ChangeSpec := { name := "verifyNulls", fn := fun _ => fun
  | [d1, d2, d3] => { results := [.lit (.bool false)], args := [d1, d2, d3] }
  | _ => none }
def VerifyNullsWrongFalsely : Prop := verifyNullsRow.holds Tryz.pinned (OpenSpec.ofChange verifyNullsWrong)

/- THE SECOND FORM. 'bulk': how many values and letters a reading holds, each counted each time it is reached (what is shared counts as often as it is met; a slice's spare places count too). A statement '..UptoSaid' is the law's where the arguments, and the package variables that the reading takes, are together of bulk at most 1048576: NARROWER than '..Said'. Prove '..Said' where nothing that the law and all that it calls make is longer than what came in: it says more and counts as full. Else prove '..UptoSaid'. A law counts once. -/
mutual
def uptoBulk {H : Type} : DataW H → Nat
  | .lit (.string bytes) => bytes.length + 1
  | .lit _ => 1
  | .nil => 1
  | .ptr d => uptoBulk d + 1
  | .slice elems spare => uptoBulkAll elems + uptoBulkAll spare + 1
  | .agg parts => uptoBulkAll parts + 1
  | .iface _ d => uptoBulk d + 1
  | .map entries => uptoBulkEntries entries + 1
  | .held _ => 1
def uptoBulkAll {H : Type} : List (DataW H) → Nat
  | [] => 0
  | d :: r => uptoBulk d + uptoBulkAll r
def uptoBulkEntries {H : Type} : List (Lit × DataW H) → Nat
  | [] => 0
  | x :: r => uptoBulkEntry x + uptoBulkEntries r
def uptoBulkEntry {H : Type} : Lit × DataW H → Nat
  | (.string bytes, d) => bytes.length + uptoBulk d + 1
  | (_, d) => uptoBulk d + 1
 end
def uptoSmall : (H : Type) → List (DataW H) → Bool := fun _ ds => decide (uptoBulkAll ds ≤ 1048576)
def OpenSpec.upto (s : _root_.Go.ChangeSpec) : _root_.Go.OpenSpec := { _root_.Go.OpenSpec.ofChange s with cond := some uptoSmall }

/-- 'portcullislaw21.VerifyPrograms', WHERE WHAT IT READS IS OF BULK AT MOST 1048576: true; the input reads as it did. -/
def verifyProgramsUptoRow : OpenClaim := { program := "ytlakcjlgjmeefaagreat", sum := "0246105a86c99a608e0bb429cb929a678809be989eebab3c52a13f60ed898413", func := "portcullis/portcullislaw21.VerifyPrograms", spec := "verifyPrograms", unfollowed := true, recurses := true, apart := false, narrowed := true }
def VerifyProgramsUptoSaid : Prop := verifyProgramsUptoRow.holds Tryz.pinned (OpenSpec.upto verifyProgramsSpec)

/-- 'portcullislaw21.VerifyEnds', WHERE WHAT IT READS IS OF BULK AT MOST 1048576: true; the input reads as it did. -/
def verifyEndsUptoRow : OpenClaim := { program := "ytlakcjlgjmeefaagreat", sum := "0246105a86c99a608e0bb429cb929a678809be989eebab3c52a13f60ed898413", func := "portcullis/portcullislaw21.VerifyEnds", spec := "verifyEnds", unfollowed := true, recurses := true, apart := false, narrowed := true }
def VerifyEndsUptoSaid : Prop := verifyEndsUptoRow.holds Tryz.pinned (OpenSpec.upto verifyEndsSpec)

/-- 'portcullislaw21.VerifyMore', WHERE WHAT IT READS IS OF BULK AT MOST 1048576: true; the input reads as it did. -/
def verifyMoreUptoRow : OpenClaim := { program := "ytlakcjlgjmeefaagreat", sum := "0246105a86c99a608e0bb429cb929a678809be989eebab3c52a13f60ed898413", func := "portcullis/portcullislaw21.VerifyMore", spec := "verifyMore", unfollowed := true, recurses := true, apart := false, narrowed := true }
def VerifyMoreUptoSaid : Prop := verifyMoreUptoRow.holds Tryz.pinned (OpenSpec.upto verifyMoreSpec)

/-- 'portcullislaw21.VerifyExits', WHERE WHAT IT READS IS OF BULK AT MOST 1048576: true; the input reads as it did. -/
def verifyExitsUptoRow : OpenClaim := { program := "ytlakcjlgjmeefaagreat", sum := "0246105a86c99a608e0bb429cb929a678809be989eebab3c52a13f60ed898413", func := "portcullis/portcullislaw21.VerifyExits", spec := "verifyExits", unfollowed := true, recurses := true, apart := false, narrowed := true }
def VerifyExitsUptoSaid : Prop := verifyExitsUptoRow.holds Tryz.pinned (OpenSpec.upto verifyExitsSpec)

/-- 'portcullislaw21.VerifyNulls', WHERE WHAT IT READS IS OF BULK AT MOST 1048576: true; the input reads as it did. -/
def verifyNullsUptoRow : OpenClaim := { program := "ytlakcjlgjmeefaagreat", sum := "0246105a86c99a608e0bb429cb929a678809be989eebab3c52a13f60ed898413", func := "portcullis/portcullislaw21.VerifyNulls", spec := "verifyNulls", unfollowed := true, recurses := true, apart := false, narrowed := true }
def VerifyNullsUptoSaid : Prop := verifyNullsUptoRow.holds Tryz.pinned (OpenSpec.upto verifyNullsSpec)

end Rows
end Go.Proofs.YtlakcjlgjmeefaaGreat
