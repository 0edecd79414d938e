/-
  No cell of these rows narrows 'for every input' (looked for: loops, veiled, ifaces, maps, wideKeys, modest, calm, conditions, laid).
  DERIVED. THE GIVEN ROWS OF THIS SEAT. 15 by the template 'for every input the law returns true; each argument reads behind the call as it read before'; 0 by the template 'total and deterministic' (their statements: YtemeapfnfegkiaaTotals.lean).
  GIVEN WITH THE SEED: the statements are not yours to turn. If you find one false, say at which input.
  Laid BY PROGRAM, IN A SANDBOX (cutbox-rows.mjs): the forced cells as the released guide's own fill.sh prints them over the translation 652886b240aa74e3… (all of the seat's roots in one cut). By AI agents, Wed Nov 11 2026. No macro, syntax, notation, axiom, sorry.
-/
import Derived.Test.YtemeapfnfegkiaaChecked
import GoSem.Claim
import GoSem.ClaimJoined
import GoSem.ClaimMapViews
import Derived.JoinedTies
import Derived.KernelRfl
namespace Go.Proofs.Ytemeapfnfegkiaa
/- THE CELL 'sum', in the pinned program and in every row, IS THE sha256 OF THE DUMP (.gsa) THAT YtemeapfnfegkiaaProg.lean LOADS. Nothing in Lean hashes anything: it is a label: what it is worth is what the hold of that sum in a sandbox is worth. -/
noncomputable def Try.pinned : Pinned := { name := "ytemeapfnfegkiaa", sum := "652886b240aa74e3d0d341d86a83df8487a03de332ae1e747d2fd2bb2b45d0ed", checked := Try.checked }
namespace Rows
def none {H : Type} : Left H := { results := [], args := [] }

/-- 'helioscopelaw01.DiskChecks': WHATEVER THE INPUT: true; the input reads as it did. -/
def diskChecksSpec : ChangeSpec := { name := "diskChecks", fn := fun _ => fun
  | [d1, d2] => { results := [.lit (.bool true)], args := [d1, d2] }
  | _ => none }
def diskChecksRow : OpenClaim := { program := "ytemeapfnfegkiaa", sum := "652886b240aa74e3d0d341d86a83df8487a03de332ae1e747d2fd2bb2b45d0ed", func := "helioscope/helioscopelaw01.DiskChecks", spec := "diskChecks", unfollowed := true, recurses := true, plainKeys := false, apart := false }
def DiskChecksSaid : Prop := diskChecksRow.holds Try.pinned (OpenSpec.ofChange diskChecksSpec)

/-- ITS FALSE NEIGHBOUR: 'it returns false'. Refute it at one input. -/
def diskChecksWrong : ChangeSpec := { name := "diskChecks", fn := fun _ => fun
  | [d1, d2] => { results := [.lit (.bool false)], args := [d1, d2] }
  | _ => none }
def DiskChecksWrongFalsely : Prop := diskChecksRow.holds Try.pinned (OpenSpec.ofChange diskChecksWrong)

/-- 'helioscopelaw01.DiskOnes': WHATEVER THE INPUT: true; the input reads as it did. -/
def diskOnesSpec : ChangeSpec := { name := "diskOnes", fn := fun _ => fun
  | [d1, d2] => { results := [.lit (.bool true)], args := [d1, d2] }
  | _ => none }
def diskOnesRow : OpenClaim := { program := "ytemeapfnfegkiaa", sum := "652886b240aa74e3d0d341d86a83df8487a03de332ae1e747d2fd2bb2b45d0ed", func := "helioscope/helioscopelaw01.DiskOnes", spec := "diskOnes", unfollowed := true, recurses := true, plainKeys := false, apart := false }
def DiskOnesSaid : Prop := diskOnesRow.holds Try.pinned (OpenSpec.ofChange diskOnesSpec)

/-- ITS FALSE NEIGHBOUR: 'it returns false'. Refute it at one input. -/
def diskOnesWrong : ChangeSpec := { name := "diskOnes", fn := fun _ => fun
  | [d1, d2] => { results := [.lit (.bool false)], args := [d1, d2] }
  | _ => none }
def DiskOnesWrongFalsely : Prop := diskOnesRow.holds Try.pinned (OpenSpec.ofChange diskOnesWrong)

/-- 'helioscopelaw01.DiskCounts': WHATEVER THE INPUT: true; the input reads as it did. -/
def diskCountsSpec : ChangeSpec := { name := "diskCounts", fn := fun _ => fun
  | [d] => { results := [.lit (.bool true)], args := [d] }
  | _ => none }
def diskCountsRow : OpenClaim := { program := "ytemeapfnfegkiaa", sum := "652886b240aa74e3d0d341d86a83df8487a03de332ae1e747d2fd2bb2b45d0ed", func := "helioscope/helioscopelaw01.DiskCounts", spec := "diskCounts", unfollowed := true, recurses := true, plainKeys := false, apart := false }
def DiskCountsSaid : Prop := diskCountsRow.holds Try.pinned (OpenSpec.ofChange diskCountsSpec)

/-- ITS FALSE NEIGHBOUR: 'it returns false'. Refute it at one input. -/
def diskCountsWrong : ChangeSpec := { name := "diskCounts", fn := fun _ => fun
  | [d] => { results := [.lit (.bool false)], args := [d] }
  | _ => none }
def DiskCountsWrongFalsely : Prop := diskCountsRow.holds Try.pinned (OpenSpec.ofChange diskCountsWrong)

/-- 'helioscopelaw01.DiskAsks': WHATEVER THE INPUT: true; the input reads as it did. -/
def diskAsksSpec : ChangeSpec := { name := "diskAsks", fn := fun _ => fun
  | [d] => { results := [.lit (.bool true)], args := [d] }
  | _ => none }
def diskAsksRow : OpenClaim := { program := "ytemeapfnfegkiaa", sum := "652886b240aa74e3d0d341d86a83df8487a03de332ae1e747d2fd2bb2b45d0ed", func := "helioscope/helioscopelaw01.DiskAsks", spec := "diskAsks", unfollowed := true, recurses := true, plainKeys := false, apart := false }
def DiskAsksSaid : Prop := diskAsksRow.holds Try.pinned (OpenSpec.ofChange diskAsksSpec)

/-- ITS FALSE NEIGHBOUR: 'it returns false'. Refute it at one input. -/
def diskAsksWrong : ChangeSpec := { name := "diskAsks", fn := fun _ => fun
  | [d] => { results := [.lit (.bool false)], args := [d] }
  | _ => none }
def DiskAsksWrongFalsely : Prop := diskAsksRow.holds Try.pinned (OpenSpec.ofChange diskAsksWrong)

/-- 'helioscopelaw01.DiskKnown': WHATEVER THE INPUT: true; the input reads as it did. -/
def diskKnownSpec : ChangeSpec := { name := "diskKnown", fn := fun _ => fun
  | [] => { results := [.lit (.bool true)], args := [] }
  | _ => none }
def diskKnownRow : OpenClaim := { program := "ytemeapfnfegkiaa", sum := "652886b240aa74e3d0d341d86a83df8487a03de332ae1e747d2fd2bb2b45d0ed", func := "helioscope/helioscopelaw01.DiskKnown", spec := "diskKnown", unfollowed := true, recurses := true, plainKeys := false, apart := false }
def DiskKnownSaid : Prop := diskKnownRow.holds Try.pinned (OpenSpec.ofChange diskKnownSpec)

/-- ITS FALSE NEIGHBOUR: 'it returns false'. Refute it at one input. -/
def diskKnownWrong : ChangeSpec := { name := "diskKnown", fn := fun _ => fun
  | [] => { results := [.lit (.bool false)], args := [] }
  | _ => none }
def DiskKnownWrongFalsely : Prop := diskKnownRow.holds Try.pinned (OpenSpec.ofChange diskKnownWrong)

/-- 'helioscopelaw01.DiskTrue': WHATEVER THE INPUT: true; the input reads as it did. -/
def diskTrueSpec : ChangeSpec := { name := "diskTrue", fn := fun _ => fun
  | [d1, d2] => { results := [.lit (.bool true)], args := [d1, d2] }
  | _ => none }
def diskTrueRow : OpenClaim := { program := "ytemeapfnfegkiaa", sum := "652886b240aa74e3d0d341d86a83df8487a03de332ae1e747d2fd2bb2b45d0ed", func := "helioscope/helioscopelaw01.DiskTrue", spec := "diskTrue", unfollowed := true, recurses := true, plainKeys := false, apart := false }
def DiskTrueSaid : Prop := diskTrueRow.holds Try.pinned (OpenSpec.ofChange diskTrueSpec)

/-- ITS FALSE NEIGHBOUR: 'it returns false'. Refute it at one input. -/
def diskTrueWrong : ChangeSpec := { name := "diskTrue", fn := fun _ => fun
  | [d1, d2] => { results := [.lit (.bool false)], args := [d1, d2] }
  | _ => none }
def DiskTrueWrongFalsely : Prop := diskTrueRow.holds Try.pinned (OpenSpec.ofChange diskTrueWrong)

/-- 'helioscopelaw01.DiskHanded': WHATEVER THE INPUT: true; the input reads as it did. -/
def diskHandedSpec : ChangeSpec := { name := "diskHanded", fn := fun _ => fun
  | [d1, d2] => { results := [.lit (.bool true)], args := [d1, d2] }
  | _ => none }
def diskHandedRow : OpenClaim := { program := "ytemeapfnfegkiaa", sum := "652886b240aa74e3d0d341d86a83df8487a03de332ae1e747d2fd2bb2b45d0ed", func := "helioscope/helioscopelaw01.DiskHanded", spec := "diskHanded", unfollowed := true, recurses := true, plainKeys := false, apart := false }
def DiskHandedSaid : Prop := diskHandedRow.holds Try.pinned (OpenSpec.ofChange diskHandedSpec)

/-- ITS FALSE NEIGHBOUR: 'it returns false'. Refute it at one input. -/
def diskHandedWrong : ChangeSpec := { name := "diskHanded", fn := fun _ => fun
  | [d1, d2] => { results := [.lit (.bool false)], args := [d1, d2] }
  | _ => none }
def DiskHandedWrongFalsely : Prop := diskHandedRow.holds Try.pinned (OpenSpec.ofChange diskHandedWrong)

/-- 'helioscopelaw01.DiskFewest': WHATEVER THE INPUT: true; the input reads as it did. -/
def diskFewestSpec : ChangeSpec := { name := "diskFewest", fn := fun _ => fun
  | [d1, d2] => { results := [.lit (.bool true)], args := [d1, d2] }
  | _ => none }
def diskFewestRow : OpenClaim := { program := "ytemeapfnfegkiaa", sum := "652886b240aa74e3d0d341d86a83df8487a03de332ae1e747d2fd2bb2b45d0ed", func := "helioscope/helioscopelaw01.DiskFewest", spec := "diskFewest", unfollowed := true, recurses := true, plainKeys := false, apart := false }
def DiskFewestSaid : Prop := diskFewestRow.holds Try.pinned (OpenSpec.ofChange diskFewestSpec)

/-- ITS FALSE NEIGHBOUR: 'it returns false'. Refute it at one input. -/
def diskFewestWrong : ChangeSpec := { name := "diskFewest", fn := fun _ => fun
  | [d1, d2] => { results := [.lit (.bool false)], args := [d1, d2] }
  | _ => none }
def DiskFewestWrongFalsely : Prop := diskFewestRow.holds Try.pinned (OpenSpec.ofChange diskFewestWrong)

/-- 'helioscopelaw01.DiskMore': WHATEVER THE INPUT: true; the input reads as it did. -/
def diskMoreSpec : ChangeSpec := { name := "diskMore", fn := fun _ => fun
  | [d1, d2] => { results := [.lit (.bool true)], args := [d1, d2] }
  | _ => none }
def diskMoreRow : OpenClaim := { program := "ytemeapfnfegkiaa", sum := "652886b240aa74e3d0d341d86a83df8487a03de332ae1e747d2fd2bb2b45d0ed", func := "helioscope/helioscopelaw01.DiskMore", spec := "diskMore", unfollowed := true, recurses := true, plainKeys := false, apart := false }
def DiskMoreSaid : Prop := diskMoreRow.holds Try.pinned (OpenSpec.ofChange diskMoreSpec)

/-- ITS FALSE NEIGHBOUR: 'it returns false'. Refute it at one input. -/
def diskMoreWrong : ChangeSpec := { name := "diskMore", fn := fun _ => fun
  | [d1, d2] => { results := [.lit (.bool false)], args := [d1, d2] }
  | _ => none }
def DiskMoreWrongFalsely : Prop := diskMoreRow.holds Try.pinned (OpenSpec.ofChange diskMoreWrong)

/-- 'helioscopelaw01.DiskAsked': WHATEVER THE INPUT: true; the input reads as it did. -/
def diskAskedSpec : ChangeSpec := { name := "diskAsked", fn := fun _ => fun
  | [d1, d2, d3] => { results := [.lit (.bool true)], args := [d1, d2, d3] }
  | _ => none }
def diskAskedRow : OpenClaim := { program := "ytemeapfnfegkiaa", sum := "652886b240aa74e3d0d341d86a83df8487a03de332ae1e747d2fd2bb2b45d0ed", func := "helioscope/helioscopelaw01.DiskAsked", spec := "diskAsked", unfollowed := true, recurses := true, plainKeys := false, apart := false }
def DiskAskedSaid : Prop := diskAskedRow.holds Try.pinned (OpenSpec.ofChange diskAskedSpec)

/-- ITS FALSE NEIGHBOUR: 'it returns false'. Refute it at one input. -/
def diskAskedWrong : ChangeSpec := { name := "diskAsked", fn := fun _ => fun
  | [d1, d2, d3] => { results := [.lit (.bool false)], args := [d1, d2, d3] }
  | _ => none }
def DiskAskedWrongFalsely : Prop := diskAskedRow.holds Try.pinned (OpenSpec.ofChange diskAskedWrong)

/-- 'helioscopelaw01.DiskMoved': WHATEVER THE INPUT: true; the input reads as it did. -/
def diskMovedSpec : ChangeSpec := { name := "diskMoved", fn := fun _ => fun
  | [d1, d2] => { results := [.lit (.bool true)], args := [d1, d2] }
  | _ => none }
def diskMovedRow : OpenClaim := { program := "ytemeapfnfegkiaa", sum := "652886b240aa74e3d0d341d86a83df8487a03de332ae1e747d2fd2bb2b45d0ed", func := "helioscope/helioscopelaw01.DiskMoved", spec := "diskMoved", unfollowed := true, recurses := true, plainKeys := false, apart := false }
def DiskMovedSaid : Prop := diskMovedRow.holds Try.pinned (OpenSpec.ofChange diskMovedSpec)

/-- ITS FALSE NEIGHBOUR: 'it returns false'. Refute it at one input. -/
def diskMovedWrong : ChangeSpec := { name := "diskMoved", fn := fun _ => fun
  | [d1, d2] => { results := [.lit (.bool false)], args := [d1, d2] }
  | _ => none }
def DiskMovedWrongFalsely : Prop := diskMovedRow.holds Try.pinned (OpenSpec.ofChange diskMovedWrong)

/-- 'helioscopelaw01.DiskNumber': WHATEVER THE INPUT: true; the input reads as it did. -/
def diskNumberSpec : ChangeSpec := { name := "diskNumber", fn := fun _ => fun
  | [d1, d2] => { results := [.lit (.bool true)], args := [d1, d2] }
  | _ => none }
def diskNumberRow : OpenClaim := { program := "ytemeapfnfegkiaa", sum := "652886b240aa74e3d0d341d86a83df8487a03de332ae1e747d2fd2bb2b45d0ed", func := "helioscope/helioscopelaw01.DiskNumber", spec := "diskNumber", unfollowed := true, recurses := true, plainKeys := false, apart := false }
def DiskNumberSaid : Prop := diskNumberRow.holds Try.pinned (OpenSpec.ofChange diskNumberSpec)

/-- ITS FALSE NEIGHBOUR: 'it returns false'. Refute it at one input. -/
def diskNumberWrong : ChangeSpec := { name := "diskNumber", fn := fun _ => fun
  | [d1, d2] => { results := [.lit (.bool false)], args := [d1, d2] }
  | _ => none }
def DiskNumberWrongFalsely : Prop := diskNumberRow.holds Try.pinned (OpenSpec.ofChange diskNumberWrong)

/-- 'helioscopelaw01.DiskBeside': WHATEVER THE INPUT: true; the input reads as it did. -/
def diskBesideSpec : ChangeSpec := { name := "diskBeside", fn := fun _ => fun
  | [d1, d2] => { results := [.lit (.bool true)], args := [d1, d2] }
  | _ => none }
def diskBesideRow : OpenClaim := { program := "ytemeapfnfegkiaa", sum := "652886b240aa74e3d0d341d86a83df8487a03de332ae1e747d2fd2bb2b45d0ed", func := "helioscope/helioscopelaw01.DiskBeside", spec := "diskBeside", unfollowed := true, recurses := true, plainKeys := false, apart := false }
def DiskBesideSaid : Prop := diskBesideRow.holds Try.pinned (OpenSpec.ofChange diskBesideSpec)

/-- ITS FALSE NEIGHBOUR: 'it returns false'. Refute it at one input. -/
def diskBesideWrong : ChangeSpec := { name := "diskBeside", fn := fun _ => fun
  | [d1, d2] => { results := [.lit (.bool false)], args := [d1, d2] }
  | _ => none }
def DiskBesideWrongFalsely : Prop := diskBesideRow.holds Try.pinned (OpenSpec.ofChange diskBesideWrong)

/-- 'helioscopelaw01.DiskNearer': WHATEVER THE INPUT: true; the input reads as it did. -/
def diskNearerSpec : ChangeSpec := { name := "diskNearer", fn := fun _ => fun
  | [d1, d2] => { results := [.lit (.bool true)], args := [d1, d2] }
  | _ => none }
def diskNearerRow : OpenClaim := { program := "ytemeapfnfegkiaa", sum := "652886b240aa74e3d0d341d86a83df8487a03de332ae1e747d2fd2bb2b45d0ed", func := "helioscope/helioscopelaw01.DiskNearer", spec := "diskNearer", unfollowed := true, recurses := true, plainKeys := false, apart := false }
def DiskNearerSaid : Prop := diskNearerRow.holds Try.pinned (OpenSpec.ofChange diskNearerSpec)

/-- ITS FALSE NEIGHBOUR: 'it returns false'. Refute it at one input. -/
def diskNearerWrong : ChangeSpec := { name := "diskNearer", fn := fun _ => fun
  | [d1, d2] => { results := [.lit (.bool false)], args := [d1, d2] }
  | _ => none }
def DiskNearerWrongFalsely : Prop := diskNearerRow.holds Try.pinned (OpenSpec.ofChange diskNearerWrong)

/-- 'helioscopetop.TopAnewDisk': WHATEVER THE INPUT: true; the input reads as it did. -/
def topAnewDiskSpec : ChangeSpec := { name := "topAnewDisk", fn := fun _ => fun
  | [d] => { results := [.lit (.bool true)], args := [d] }
  | _ => none }
def topAnewDiskRow : OpenClaim := { program := "ytemeapfnfegkiaa", sum := "652886b240aa74e3d0d341d86a83df8487a03de332ae1e747d2fd2bb2b45d0ed", func := "helioscope/helioscopetop.TopAnewDisk", spec := "topAnewDisk", unfollowed := true, recurses := true, plainKeys := false, apart := false }
def TopAnewDiskSaid : Prop := topAnewDiskRow.holds Try.pinned (OpenSpec.ofChange topAnewDiskSpec)

/-- ITS FALSE NEIGHBOUR: 'it returns false'. Refute it at one input. -/
def topAnewDiskWrong : ChangeSpec := { name := "topAnewDisk", fn := fun _ => fun
  | [d] => { results := [.lit (.bool false)], args := [d] }
  | _ => none }
def TopAnewDiskWrongFalsely : Prop := topAnewDiskRow.holds Try.pinned (OpenSpec.ofChange topAnewDiskWrong)

/- THE SECOND FORM. 'bulk': how many values and letters a reading holds, each counted each time it is reached (what is shared counts as often as it is met; a slice's spare places count too). A statement '..UptoSaid' is the law's where the arguments, and the package variables that the reading takes, are together of bulk at most 1048576: NARROWER than '..Said'. Prove '..Said' where nothing that the law and all that it calls make is longer than what came in: it says more and counts as full. Else prove '..UptoSaid'. A law counts once. -/
mutual
def uptoBulk {H : Type} : DataW H → Nat
  | .lit (.string bytes) => bytes.length + 1
  | .lit _ => 1
  | .nil => 1
  | .ptr d => uptoBulk d + 1
  | .slice elems spare => uptoBulkAll elems + uptoBulkAll spare + 1
  | .agg parts => uptoBulkAll parts + 1
  | .iface _ d => uptoBulk d + 1
  | .map entries => uptoBulkEntries entries + 1
  | .held _ => 1
def uptoBulkAll {H : Type} : List (DataW H) → Nat
  | [] => 0
  | d :: r => uptoBulk d + uptoBulkAll r
def uptoBulkEntries {H : Type} : List (Lit × DataW H) → Nat
  | [] => 0
  | x :: r => uptoBulkEntry x + uptoBulkEntries r
def uptoBulkEntry {H : Type} : Lit × DataW H → Nat
  | (.string bytes, d) => bytes.length + uptoBulk d + 1
  | (_, d) => uptoBulk d + 1
 end
def uptoSmall : (H : Type) → List (DataW H) → Bool := fun _ ds => decide (uptoBulkAll ds ≤ 1048576)
def OpenSpec.upto (s : _root_.Go.ChangeSpec) : _root_.Go.OpenSpec := { _root_.Go.OpenSpec.ofChange s with cond := some uptoSmall }

/-- 'helioscopelaw01.DiskChecks', WHERE WHAT IT READS IS OF BULK AT MOST 1048576: true; the input reads as it did. -/
def diskChecksUptoRow : OpenClaim := { program := "ytemeapfnfegkiaa", sum := "652886b240aa74e3d0d341d86a83df8487a03de332ae1e747d2fd2bb2b45d0ed", func := "helioscope/helioscopelaw01.DiskChecks", spec := "diskChecks", unfollowed := true, recurses := true, plainKeys := false, apart := false, narrowed := true }
def DiskChecksUptoSaid : Prop := diskChecksUptoRow.holds Try.pinned (OpenSpec.upto diskChecksSpec)

/-- 'helioscopelaw01.DiskOnes', WHERE WHAT IT READS IS OF BULK AT MOST 1048576: true; the input reads as it did. -/
def diskOnesUptoRow : OpenClaim := { program := "ytemeapfnfegkiaa", sum := "652886b240aa74e3d0d341d86a83df8487a03de332ae1e747d2fd2bb2b45d0ed", func := "helioscope/helioscopelaw01.DiskOnes", spec := "diskOnes", unfollowed := true, recurses := true, plainKeys := false, apart := false, narrowed := true }
def DiskOnesUptoSaid : Prop := diskOnesUptoRow.holds Try.pinned (OpenSpec.upto diskOnesSpec)

/-- 'helioscopelaw01.DiskCounts', WHERE WHAT IT READS IS OF BULK AT MOST 1048576: true; the input reads as it did. -/
def diskCountsUptoRow : OpenClaim := { program := "ytemeapfnfegkiaa", sum := "652886b240aa74e3d0d341d86a83df8487a03de332ae1e747d2fd2bb2b45d0ed", func := "helioscope/helioscopelaw01.DiskCounts", spec := "diskCounts", unfollowed := true, recurses := true, plainKeys := false, apart := false, narrowed := true }
def DiskCountsUptoSaid : Prop := diskCountsUptoRow.holds Try.pinned (OpenSpec.upto diskCountsSpec)

/-- 'helioscopelaw01.DiskAsks', WHERE WHAT IT READS IS OF BULK AT MOST 1048576: true; the input reads as it did. -/
def diskAsksUptoRow : OpenClaim := { program := "ytemeapfnfegkiaa", sum := "652886b240aa74e3d0d341d86a83df8487a03de332ae1e747d2fd2bb2b45d0ed", func := "helioscope/helioscopelaw01.DiskAsks", spec := "diskAsks", unfollowed := true, recurses := true, plainKeys := false, apart := false, narrowed := true }
def DiskAsksUptoSaid : Prop := diskAsksUptoRow.holds Try.pinned (OpenSpec.upto diskAsksSpec)

/-- 'helioscopelaw01.DiskKnown', WHERE WHAT IT READS IS OF BULK AT MOST 1048576: true; the input reads as it did. -/
def diskKnownUptoRow : OpenClaim := { program := "ytemeapfnfegkiaa", sum := "652886b240aa74e3d0d341d86a83df8487a03de332ae1e747d2fd2bb2b45d0ed", func := "helioscope/helioscopelaw01.DiskKnown", spec := "diskKnown", unfollowed := true, recurses := true, plainKeys := false, apart := false, narrowed := true }
def DiskKnownUptoSaid : Prop := diskKnownUptoRow.holds Try.pinned (OpenSpec.upto diskKnownSpec)

/-- 'helioscopelaw01.DiskTrue', WHERE WHAT IT READS IS OF BULK AT MOST 1048576: true; the input reads as it did. -/
def diskTrueUptoRow : OpenClaim := { program := "ytemeapfnfegkiaa", sum := "652886b240aa74e3d0d341d86a83df8487a03de332ae1e747d2fd2bb2b45d0ed", func := "helioscope/helioscopelaw01.DiskTrue", spec := "diskTrue", unfollowed := true, recurses := true, plainKeys := false, apart := false, narrowed := true }
def DiskTrueUptoSaid : Prop := diskTrueUptoRow.holds Try.pinned (OpenSpec.upto diskTrueSpec)

/-- 'helioscopelaw01.DiskHanded', WHERE WHAT IT READS IS OF BULK AT MOST 1048576: true; the input reads as it did. -/
def diskHandedUptoRow : OpenClaim := { program := "ytemeapfnfegkiaa", sum := "652886b240aa74e3d0d341d86a83df8487a03de332ae1e747d2fd2bb2b45d0ed", func := "helioscope/helioscopelaw01.DiskHanded", spec := "diskHanded", unfollowed := true, recurses := true, plainKeys := false, apart := false, narrowed := true }
def DiskHandedUptoSaid : Prop := diskHandedUptoRow.holds Try.pinned (OpenSpec.upto diskHandedSpec)

/-- 'helioscopelaw01.DiskFewest', WHERE WHAT IT READS IS OF BULK AT MOST 1048576: true; the input reads as it did. -/
def diskFewestUptoRow : OpenClaim := { program := "ytemeapfnfegkiaa", sum := "652886b240aa74e3d0d341d86a83df8487a03de332ae1e747d2fd2bb2b45d0ed", func := "helioscope/helioscopelaw01.DiskFewest", spec := "diskFewest", unfollowed := true, recurses := true, plainKeys := false, apart := false, narrowed := true }
def DiskFewestUptoSaid : Prop := diskFewestUptoRow.holds Try.pinned (OpenSpec.upto diskFewestSpec)

/-- 'helioscopelaw01.DiskMore', WHERE WHAT IT READS IS OF BULK AT MOST 1048576: true; the input reads as it did. -/
def diskMoreUptoRow : OpenClaim := { program := "ytemeapfnfegkiaa", sum := "652886b240aa74e3d0d341d86a83df8487a03de332ae1e747d2fd2bb2b45d0ed", func := "helioscope/helioscopelaw01.DiskMore", spec := "diskMore", unfollowed := true, recurses := true, plainKeys := false, apart := false, narrowed := true }
def DiskMoreUptoSaid : Prop := diskMoreUptoRow.holds Try.pinned (OpenSpec.upto diskMoreSpec)

/-- 'helioscopelaw01.DiskAsked', WHERE WHAT IT READS IS OF BULK AT MOST 1048576: true; the input reads as it did. -/
def diskAskedUptoRow : OpenClaim := { program := "ytemeapfnfegkiaa", sum := "652886b240aa74e3d0d341d86a83df8487a03de332ae1e747d2fd2bb2b45d0ed", func := "helioscope/helioscopelaw01.DiskAsked", spec := "diskAsked", unfollowed := true, recurses := true, plainKeys := false, apart := false, narrowed := true }
def DiskAskedUptoSaid : Prop := diskAskedUptoRow.holds Try.pinned (OpenSpec.upto diskAskedSpec)

/-- 'helioscopelaw01.DiskMoved', WHERE WHAT IT READS IS OF BULK AT MOST 1048576: true; the input reads as it did. -/
def diskMovedUptoRow : OpenClaim := { program := "ytemeapfnfegkiaa", sum := "652886b240aa74e3d0d341d86a83df8487a03de332ae1e747d2fd2bb2b45d0ed", func := "helioscope/helioscopelaw01.DiskMoved", spec := "diskMoved", unfollowed := true, recurses := true, plainKeys := false, apart := false, narrowed := true }
def DiskMovedUptoSaid : Prop := diskMovedUptoRow.holds Try.pinned (OpenSpec.upto diskMovedSpec)

/-- 'helioscopelaw01.DiskNumber', WHERE WHAT IT READS IS OF BULK AT MOST 1048576: true; the input reads as it did. -/
def diskNumberUptoRow : OpenClaim := { program := "ytemeapfnfegkiaa", sum := "652886b240aa74e3d0d341d86a83df8487a03de332ae1e747d2fd2bb2b45d0ed", func := "helioscope/helioscopelaw01.DiskNumber", spec := "diskNumber", unfollowed := true, recurses := true, plainKeys := false, apart := false, narrowed := true }
def DiskNumberUptoSaid : Prop := diskNumberUptoRow.holds Try.pinned (OpenSpec.upto diskNumberSpec)

/-- 'helioscopelaw01.DiskBeside', WHERE WHAT IT READS IS OF BULK AT MOST 1048576: true; the input reads as it did. -/
def diskBesideUptoRow : OpenClaim := { program := "ytemeapfnfegkiaa", sum := "652886b240aa74e3d0d341d86a83df8487a03de332ae1e747d2fd2bb2b45d0ed", func := "helioscope/helioscopelaw01.DiskBeside", spec := "diskBeside", unfollowed := true, recurses := true, plainKeys := false, apart := false, narrowed := true }
def DiskBesideUptoSaid : Prop := diskBesideUptoRow.holds Try.pinned (OpenSpec.upto diskBesideSpec)

/-- 'helioscopelaw01.DiskNearer', WHERE WHAT IT READS IS OF BULK AT MOST 1048576: true; the input reads as it did. -/
def diskNearerUptoRow : OpenClaim := { program := "ytemeapfnfegkiaa", sum := "652886b240aa74e3d0d341d86a83df8487a03de332ae1e747d2fd2bb2b45d0ed", func := "helioscope/helioscopelaw01.DiskNearer", spec := "diskNearer", unfollowed := true, recurses := true, plainKeys := false, apart := false, narrowed := true }
def DiskNearerUptoSaid : Prop := diskNearerUptoRow.holds Try.pinned (OpenSpec.upto diskNearerSpec)

/-- 'helioscopetop.TopAnewDisk', WHERE WHAT IT READS IS OF BULK AT MOST 1048576: true; the input reads as it did. -/
def topAnewDiskUptoRow : OpenClaim := { program := "ytemeapfnfegkiaa", sum := "652886b240aa74e3d0d341d86a83df8487a03de332ae1e747d2fd2bb2b45d0ed", func := "helioscope/helioscopetop.TopAnewDisk", spec := "topAnewDisk", unfollowed := true, recurses := true, plainKeys := false, apart := false, narrowed := true }
def TopAnewDiskUptoSaid : Prop := topAnewDiskUptoRow.holds Try.pinned (OpenSpec.upto topAnewDiskSpec)

end Rows
end Go.Proofs.Ytemeapfnfegkiaa
