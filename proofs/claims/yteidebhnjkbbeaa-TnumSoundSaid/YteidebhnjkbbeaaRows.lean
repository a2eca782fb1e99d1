/-
  No cell of these rows narrows 'for every input' (looked for: loops, veiled, ifaces, maps, wideKeys, modest, calm, conditions, laid).
  DERIVED. THE GIVEN ROWS OF THIS SEAT. 6 by the template 'for every input the law returns true; each argument reads behind the call as it read before'; 0 by the template 'total and deterministic' (their statements: YteidebhnjkbbeaaTotals.lean).
  GIVEN WITH THE SEED: the statements are not yours to turn. If you find one false, say at which input.
  Laid BY PROGRAM, IN A SANDBOX (cutbox-rows.mjs): the forced cells as the released guide's own fill.sh prints them over the translation 2e5bbc35812cfaa3… (all of the seat's roots in one cut). By AI agents, Wed Nov 11 2026. No macro, syntax, notation, axiom, sorry.
-/
import Derived.Test.YteidebhnjkbbeaaChecked
import GoSem.Claim
import GoSem.ClaimJoined
import GoSem.ClaimMapViews
import Derived.JoinedTies
import Derived.KernelRfl
namespace Go.Proofs.Yteidebhnjkbbeaa
/- THE CELL 'sum', in the pinned program and in every row, IS THE sha256 OF THE DUMP (.gsa) THAT YteidebhnjkbbeaaProg.lean LOADS. Nothing in Lean hashes anything: it is a label: what it is worth is what the hold of that sum in a sandbox is worth. -/
noncomputable def Try.pinned : Pinned := { name := "yteidebhnjkbbeaa", sum := "2e5bbc35812cfaa38d8ae337ae88ac4567c4bd2bbb2879c357328381ed063d66", checked := Try.checked }
namespace Rows
def none {H : Type} : Left H := { results := [], args := [] }

/-- 'portcullislaw15.TnumBins': WHATEVER THE INPUT: true; the input reads as it did. -/
def tnumBinsSpec : ChangeSpec := { name := "tnumBins", fn := fun _ => fun
  | [d1, d2, d3] => { results := [.lit (.bool true)], args := [d1, d2, d3] }
  | _ => none }
def tnumBinsRow : OpenClaim := { program := "yteidebhnjkbbeaa", sum := "2e5bbc35812cfaa38d8ae337ae88ac4567c4bd2bbb2879c357328381ed063d66", func := "portcullis/portcullislaw15.TnumBins", spec := "tnumBins", unfollowed := true, recurses := true, apart := false }
def TnumBinsSaid : Prop := tnumBinsRow.holds Try.pinned (OpenSpec.ofChange tnumBinsSpec)

/-- ITS FALSE NEIGHBOUR: 'it returns false'. Refute it at one input. -/
def tnumBinsWrong : ChangeSpec := { name := "tnumBins", fn := fun _ => fun
  | [d1, d2, d3] => { results := [.lit (.bool false)], args := [d1, d2, d3] }
  | _ => none }
def TnumBinsWrongFalsely : Prop := tnumBinsRow.holds Try.pinned (OpenSpec.ofChange tnumBinsWrong)

/-- 'portcullislaw15.TnumSound': WHATEVER THE INPUT: true; the input reads as it did. -/
def tnumSoundSpec : ChangeSpec := { name := "tnumSound", fn := fun _ => fun
  | [d1, d2, d3] => { results := [.lit (.bool true)], args := [d1, d2, d3] }
  | _ => none }
def tnumSoundRow : OpenClaim := { program := "yteidebhnjkbbeaa", sum := "2e5bbc35812cfaa38d8ae337ae88ac4567c4bd2bbb2879c357328381ed063d66", func := "portcullis/portcullislaw15.TnumSound", spec := "tnumSound", unfollowed := true, recurses := true, apart := false }
def TnumSoundSaid : Prop := tnumSoundRow.holds Try.pinned (OpenSpec.ofChange tnumSoundSpec)

/-- ITS FALSE NEIGHBOUR: 'it returns false'. Refute it at one input. -/
def tnumSoundWrong : ChangeSpec := { name := "tnumSound", fn := fun _ => fun
  | [d1, d2, d3] => { results := [.lit (.bool false)], args := [d1, d2, d3] }
  | _ => none }
def TnumSoundWrongFalsely : Prop := tnumSoundRow.holds Try.pinned (OpenSpec.ofChange tnumSoundWrong)

/-- 'portcullislaw15.TnumSets': WHATEVER THE INPUT: true; the input reads as it did. -/
def tnumSetsSpec : ChangeSpec := { name := "tnumSets", fn := fun _ => fun
  | [d1, d2, d3] => { results := [.lit (.bool true)], args := [d1, d2, d3] }
  | _ => none }
def tnumSetsRow : OpenClaim := { program := "yteidebhnjkbbeaa", sum := "2e5bbc35812cfaa38d8ae337ae88ac4567c4bd2bbb2879c357328381ed063d66", func := "portcullis/portcullislaw15.TnumSets", spec := "tnumSets", unfollowed := true, recurses := true, apart := false }
def TnumSetsSaid : Prop := tnumSetsRow.holds Try.pinned (OpenSpec.ofChange tnumSetsSpec)

/-- ITS FALSE NEIGHBOUR: 'it returns false'. Refute it at one input. -/
def tnumSetsWrong : ChangeSpec := { name := "tnumSets", fn := fun _ => fun
  | [d1, d2, d3] => { results := [.lit (.bool false)], args := [d1, d2, d3] }
  | _ => none }
def TnumSetsWrongFalsely : Prop := tnumSetsRow.holds Try.pinned (OpenSpec.ofChange tnumSetsWrong)

/-- 'portcullislaw15.TnumMeets': WHATEVER THE INPUT: true; the input reads as it did. -/
def tnumMeetsSpec : ChangeSpec := { name := "tnumMeets", fn := fun _ => fun
  | [d1, d2, d3] => { results := [.lit (.bool true)], args := [d1, d2, d3] }
  | _ => none }
def tnumMeetsRow : OpenClaim := { program := "yteidebhnjkbbeaa", sum := "2e5bbc35812cfaa38d8ae337ae88ac4567c4bd2bbb2879c357328381ed063d66", func := "portcullis/portcullislaw15.TnumMeets", spec := "tnumMeets", unfollowed := true, recurses := true, apart := false }
def TnumMeetsSaid : Prop := tnumMeetsRow.holds Try.pinned (OpenSpec.ofChange tnumMeetsSpec)

/-- ITS FALSE NEIGHBOUR: 'it returns false'. Refute it at one input. -/
def tnumMeetsWrong : ChangeSpec := { name := "tnumMeets", fn := fun _ => fun
  | [d1, d2, d3] => { results := [.lit (.bool false)], args := [d1, d2, d3] }
  | _ => none }
def TnumMeetsWrongFalsely : Prop := tnumMeetsRow.holds Try.pinned (OpenSpec.ofChange tnumMeetsWrong)

/-- 'portcullislaw15.TnumShifts': WHATEVER THE INPUT: true; the input reads as it did. -/
def tnumShiftsSpec : ChangeSpec := { name := "tnumShifts", fn := fun _ => fun
  | [d1, d2, d3] => { results := [.lit (.bool true)], args := [d1, d2, d3] }
  | _ => none }
def tnumShiftsRow : OpenClaim := { program := "yteidebhnjkbbeaa", sum := "2e5bbc35812cfaa38d8ae337ae88ac4567c4bd2bbb2879c357328381ed063d66", func := "portcullis/portcullislaw15.TnumShifts", spec := "tnumShifts", unfollowed := true, recurses := true, apart := false }
def TnumShiftsSaid : Prop := tnumShiftsRow.holds Try.pinned (OpenSpec.ofChange tnumShiftsSpec)

/-- ITS FALSE NEIGHBOUR: 'it returns false'. Refute it at one input. -/
def tnumShiftsWrong : ChangeSpec := { name := "tnumShifts", fn := fun _ => fun
  | [d1, d2, d3] => { results := [.lit (.bool false)], args := [d1, d2, d3] }
  | _ => none }
def TnumShiftsWrongFalsely : Prop := tnumShiftsRow.holds Try.pinned (OpenSpec.ofChange tnumShiftsWrong)

/-- 'portcullislaw15.TnumShiftsSound': WHATEVER THE INPUT: true; the input reads as it did. -/
def tnumShiftsSoundSpec : ChangeSpec := { name := "tnumShiftsSound", fn := fun _ => fun
  | [d1, d2, d3] => { results := [.lit (.bool true)], args := [d1, d2, d3] }
  | _ => none }
def tnumShiftsSoundRow : OpenClaim := { program := "yteidebhnjkbbeaa", sum := "2e5bbc35812cfaa38d8ae337ae88ac4567c4bd2bbb2879c357328381ed063d66", func := "portcullis/portcullislaw15.TnumShiftsSound", spec := "tnumShiftsSound", unfollowed := true, recurses := true, apart := false }
def TnumShiftsSoundSaid : Prop := tnumShiftsSoundRow.holds Try.pinned (OpenSpec.ofChange tnumShiftsSoundSpec)

/-- ITS FALSE NEIGHBOUR: 'it returns false'. Refute it at one input. -/
def tnumShiftsSoundWrong : ChangeSpec := { name := "tnumShiftsSound", fn := fun _ => fun
  | [d1, d2, d3] => { results := [.lit (.bool false)], args := [d1, d2, d3] }
  | _ => none }
def TnumShiftsSoundWrongFalsely : Prop := tnumShiftsSoundRow.holds Try.pinned (OpenSpec.ofChange tnumShiftsSoundWrong)

/- THE SECOND FORM. 'bulk': how many values and letters a reading holds, each counted each time it is reached (what is shared counts as often as it is met; a slice's spare places count too). A statement '..UptoSaid' is the law's where the arguments, and the package variables that the reading takes, are together of bulk at most 1048576: NARROWER than '..Said'. Prove '..Said' where nothing that the law and all that it calls make is longer than what came in: it says more and counts as full. Else prove '..UptoSaid'. A law counts once. -/
mutual
def uptoBulk {H : Type} : DataW H → Nat
  | .lit (.string bytes) => bytes.length + 1
  | .lit _ => 1
  | .nil => 1
  | .ptr d => uptoBulk d + 1
  | .slice elems spare => uptoBulkAll elems + uptoBulkAll spare + 1
  | .agg parts => uptoBulkAll parts + 1
  | .iface _ d => uptoBulk d + 1
  | .map entries => uptoBulkEntries entries + 1
  | .held _ => 1
def uptoBulkAll {H : Type} : List (DataW H) → Nat
  | [] => 0
  | d :: r => uptoBulk d + uptoBulkAll r
def uptoBulkEntries {H : Type} : List (Lit × DataW H) → Nat
  | [] => 0
  | x :: r => uptoBulkEntry x + uptoBulkEntries r
def uptoBulkEntry {H : Type} : Lit × DataW H → Nat
  | (.string bytes, d) => bytes.length + uptoBulk d + 1
  | (_, d) => uptoBulk d + 1
 end
def uptoSmall : (H : Type) → List (DataW H) → Bool := fun _ ds => decide (uptoBulkAll ds ≤ 1048576)
def OpenSpec.upto (s : _root_.Go.ChangeSpec) : _root_.Go.OpenSpec := { _root_.Go.OpenSpec.ofChange s with cond := some uptoSmall }

/-- 'portcullislaw15.TnumBins', WHERE WHAT IT READS IS OF BULK AT MOST 1048576: true; the input reads as it did. -/
def tnumBinsUptoRow : OpenClaim := { program := "yteidebhnjkbbeaa", sum := "2e5bbc35812cfaa38d8ae337ae88ac4567c4bd2bbb2879c357328381ed063d66", func := "portcullis/portcullislaw15.TnumBins", spec := "tnumBins", unfollowed := true, recurses := true, apart := false, narrowed := true }
def TnumBinsUptoSaid : Prop := tnumBinsUptoRow.holds Try.pinned (OpenSpec.upto tnumBinsSpec)

/-- 'portcullislaw15.TnumSound', WHERE WHAT IT READS IS OF BULK AT MOST 1048576: true; the input reads as it did. -/
def tnumSoundUptoRow : OpenClaim := { program := "yteidebhnjkbbeaa", sum := "2e5bbc35812cfaa38d8ae337ae88ac4567c4bd2bbb2879c357328381ed063d66", func := "portcullis/portcullislaw15.TnumSound", spec := "tnumSound", unfollowed := true, recurses := true, apart := false, narrowed := true }
def TnumSoundUptoSaid : Prop := tnumSoundUptoRow.holds Try.pinned (OpenSpec.upto tnumSoundSpec)

/-- 'portcullislaw15.TnumSets', WHERE WHAT IT READS IS OF BULK AT MOST 1048576: true; the input reads as it did. -/
def tnumSetsUptoRow : OpenClaim := { program := "yteidebhnjkbbeaa", sum := "2e5bbc35812cfaa38d8ae337ae88ac4567c4bd2bbb2879c357328381ed063d66", func := "portcullis/portcullislaw15.TnumSets", spec := "tnumSets", unfollowed := true, recurses := true, apart := false, narrowed := true }
def TnumSetsUptoSaid : Prop := tnumSetsUptoRow.holds Try.pinned (OpenSpec.upto tnumSetsSpec)

/-- 'portcullislaw15.TnumMeets', WHERE WHAT IT READS IS OF BULK AT MOST 1048576: true; the input reads as it did. -/
def tnumMeetsUptoRow : OpenClaim := { program := "yteidebhnjkbbeaa", sum := "2e5bbc35812cfaa38d8ae337ae88ac4567c4bd2bbb2879c357328381ed063d66", func := "portcullis/portcullislaw15.TnumMeets", spec := "tnumMeets", unfollowed := true, recurses := true, apart := false, narrowed := true }
def TnumMeetsUptoSaid : Prop := tnumMeetsUptoRow.holds Try.pinned (OpenSpec.upto tnumMeetsSpec)

/-- 'portcullislaw15.TnumShifts', WHERE WHAT IT READS IS OF BULK AT MOST 1048576: true; the input reads as it did. -/
def tnumShiftsUptoRow : OpenClaim := { program := "yteidebhnjkbbeaa", sum := "2e5bbc35812cfaa38d8ae337ae88ac4567c4bd2bbb2879c357328381ed063d66", func := "portcullis/portcullislaw15.TnumShifts", spec := "tnumShifts", unfollowed := true, recurses := true, apart := false, narrowed := true }
def TnumShiftsUptoSaid : Prop := tnumShiftsUptoRow.holds Try.pinned (OpenSpec.upto tnumShiftsSpec)

/-- 'portcullislaw15.TnumShiftsSound', WHERE WHAT IT READS IS OF BULK AT MOST 1048576: true; the input reads as it did. -/
def tnumShiftsSoundUptoRow : OpenClaim := { program := "yteidebhnjkbbeaa", sum := "2e5bbc35812cfaa38d8ae337ae88ac4567c4bd2bbb2879c357328381ed063d66", func := "portcullis/portcullislaw15.TnumShiftsSound", spec := "tnumShiftsSound", unfollowed := true, recurses := true, apart := false, narrowed := true }
def TnumShiftsSoundUptoSaid : Prop := tnumShiftsSoundUptoRow.holds Try.pinned (OpenSpec.upto tnumShiftsSoundSpec)

end Rows
end Go.Proofs.Yteidebhnjkbbeaa
