/-
  No cell of these rows narrows 'for every input' (looked for: loops, veiled, ifaces, maps, wideKeys, modest, calm, conditions, laid).
  DERIVED. THE GIVEN ROWS OF THIS SEAT. 14 by the template 'for every input the law returns true; each argument reads behind the call as it read before'; 0 by the template 'total and deterministic' (their statements: YtgoidclnccjdeaaTotals.lean).
  GIVEN WITH THE SEED: the statements are not yours to turn. If you find one false, say at which input.
  Laid BY PROGRAM, IN A SANDBOX (cutbox-rows.mjs): the forced cells as the released guide's own fill.sh prints them over the translation ad09a685366f052e… (all of the seat's roots in one cut). By AI agents, Wed Nov 11 2026. No macro, syntax, notation, axiom, sorry.
-/
import Derived.Test.YtgoidclnccjdeaaChecked
import GoSem.Claim
import GoSem.ClaimJoined
import GoSem.ClaimMapViews
import Derived.JoinedTies
import Derived.KernelRfl
namespace Go.Proofs.Ytgoidclnccjdeaa
/- THE CELL 'sum', in the pinned program and in every row, IS THE sha256 OF THE DUMP (.gsa) THAT YtgoidclnccjdeaaProg.lean LOADS. Nothing in Lean hashes anything: it is a label: what it is worth is what the hold of that sum in a sandbox is worth. -/
noncomputable def Try.pinned : Pinned := { name := "ytgoidclnccjdeaa", sum := "ad09a685366f052e630c7125cb83df21bedb2c70d81e3247b2c2335d5cd51fb4", checked := Try.checked }
namespace Rows
def none {H : Type} : Left H := { results := [], args := [] }

/-- 'helioscopelaw07.GlassSizes': WHATEVER THE INPUT: true; the input reads as it did. -/
def glassSizesSpec : ChangeSpec := { name := "glassSizes", fn := fun _ => fun
  | [d1, d2] => { results := [.lit (.bool true)], args := [d1, d2] }
  | _ => none }
def glassSizesRow : OpenClaim := { program := "ytgoidclnccjdeaa", sum := "ad09a685366f052e630c7125cb83df21bedb2c70d81e3247b2c2335d5cd51fb4", func := "helioscope/helioscopelaw07.GlassSizes", spec := "glassSizes", unfollowed := true, recurses := true, plainKeys := false, apart := false }
def GlassSizesSaid : Prop := glassSizesRow.holds Try.pinned (OpenSpec.ofChange glassSizesSpec)

/-- ITS FALSE NEIGHBOUR: 'it returns false'. Refute it at one input. -/
def glassSizesWrong : ChangeSpec := { name := "glassSizes", fn := fun _ => fun
  | [d1, d2] => { results := [.lit (.bool false)], args := [d1, d2] }
  | _ => none }
def GlassSizesWrongFalsely : Prop := glassSizesRow.holds Try.pinned (OpenSpec.ofChange glassSizesWrong)

/-- 'helioscopelaw07.GlassUsed': WHATEVER THE INPUT: true; the input reads as it did. -/
def glassUsedSpec : ChangeSpec := { name := "glassUsed", fn := fun _ => fun
  | [d1, d2] => { results := [.lit (.bool true)], args := [d1, d2] }
  | _ => none }
def glassUsedRow : OpenClaim := { program := "ytgoidclnccjdeaa", sum := "ad09a685366f052e630c7125cb83df21bedb2c70d81e3247b2c2335d5cd51fb4", func := "helioscope/helioscopelaw07.GlassUsed", spec := "glassUsed", unfollowed := true, recurses := true, plainKeys := false, apart := false }
def GlassUsedSaid : Prop := glassUsedRow.holds Try.pinned (OpenSpec.ofChange glassUsedSpec)

/-- ITS FALSE NEIGHBOUR: 'it returns false'. Refute it at one input. -/
def glassUsedWrong : ChangeSpec := { name := "glassUsed", fn := fun _ => fun
  | [d1, d2] => { results := [.lit (.bool false)], args := [d1, d2] }
  | _ => none }
def GlassUsedWrongFalsely : Prop := glassUsedRow.holds Try.pinned (OpenSpec.ofChange glassUsedWrong)

/-- 'helioscopelaw07.GlassParts': WHATEVER THE INPUT: true; the input reads as it did. -/
def glassPartsSpec : ChangeSpec := { name := "glassParts", fn := fun _ => fun
  | [d1, d2] => { results := [.lit (.bool true)], args := [d1, d2] }
  | _ => none }
def glassPartsRow : OpenClaim := { program := "ytgoidclnccjdeaa", sum := "ad09a685366f052e630c7125cb83df21bedb2c70d81e3247b2c2335d5cd51fb4", func := "helioscope/helioscopelaw07.GlassParts", spec := "glassParts", unfollowed := true, recurses := true, plainKeys := false, apart := false }
def GlassPartsSaid : Prop := glassPartsRow.holds Try.pinned (OpenSpec.ofChange glassPartsSpec)

/-- ITS FALSE NEIGHBOUR: 'it returns false'. Refute it at one input. -/
def glassPartsWrong : ChangeSpec := { name := "glassParts", fn := fun _ => fun
  | [d1, d2] => { results := [.lit (.bool false)], args := [d1, d2] }
  | _ => none }
def GlassPartsWrongFalsely : Prop := glassPartsRow.holds Try.pinned (OpenSpec.ofChange glassPartsWrong)

/-- 'helioscopelaw07.GlassWrongs': WHATEVER THE INPUT: true; the input reads as it did. -/
def glassWrongsSpec : ChangeSpec := { name := "glassWrongs", fn := fun _ => fun
  | [d] => { results := [.lit (.bool true)], args := [d] }
  | _ => none }
def glassWrongsRow : OpenClaim := { program := "ytgoidclnccjdeaa", sum := "ad09a685366f052e630c7125cb83df21bedb2c70d81e3247b2c2335d5cd51fb4", func := "helioscope/helioscopelaw07.GlassWrongs", spec := "glassWrongs", unfollowed := true, recurses := true, plainKeys := false, apart := false }
def GlassWrongsSaid : Prop := glassWrongsRow.holds Try.pinned (OpenSpec.ofChange glassWrongsSpec)

/-- ITS FALSE NEIGHBOUR: 'it returns false'. Refute it at one input. -/
def glassWrongsWrong : ChangeSpec := { name := "glassWrongs", fn := fun _ => fun
  | [d] => { results := [.lit (.bool false)], args := [d] }
  | _ => none }
def GlassWrongsWrongFalsely : Prop := glassWrongsRow.holds Try.pinned (OpenSpec.ofChange glassWrongsWrong)

/-- 'helioscopelaw07.GlassKnown': WHATEVER THE INPUT: true; the input reads as it did. -/
def glassKnownSpec : ChangeSpec := { name := "glassKnown", fn := fun _ => fun
  | [] => { results := [.lit (.bool true)], args := [] }
  | _ => none }
def glassKnownRow : OpenClaim := { program := "ytgoidclnccjdeaa", sum := "ad09a685366f052e630c7125cb83df21bedb2c70d81e3247b2c2335d5cd51fb4", func := "helioscope/helioscopelaw07.GlassKnown", spec := "glassKnown", unfollowed := true, recurses := true, plainKeys := false, apart := false }
def GlassKnownSaid : Prop := glassKnownRow.holds Try.pinned (OpenSpec.ofChange glassKnownSpec)

/-- ITS FALSE NEIGHBOUR: 'it returns false'. Refute it at one input. -/
def glassKnownWrong : ChangeSpec := { name := "glassKnown", fn := fun _ => fun
  | [] => { results := [.lit (.bool false)], args := [] }
  | _ => none }
def GlassKnownWrongFalsely : Prop := glassKnownRow.holds Try.pinned (OpenSpec.ofChange glassKnownWrong)

/-- 'helioscopelaw07.GlassTrue': WHATEVER THE INPUT: true; the input reads as it did. -/
def glassTrueSpec : ChangeSpec := { name := "glassTrue", fn := fun _ => fun
  | [d1, d2, d3] => { results := [.lit (.bool true)], args := [d1, d2, d3] }
  | _ => none }
def glassTrueRow : OpenClaim := { program := "ytgoidclnccjdeaa", sum := "ad09a685366f052e630c7125cb83df21bedb2c70d81e3247b2c2335d5cd51fb4", func := "helioscope/helioscopelaw07.GlassTrue", spec := "glassTrue", unfollowed := true, recurses := true, plainKeys := false, apart := false }
def GlassTrueSaid : Prop := glassTrueRow.holds Try.pinned (OpenSpec.ofChange glassTrueSpec)

/-- ITS FALSE NEIGHBOUR: 'it returns false'. Refute it at one input. -/
def glassTrueWrong : ChangeSpec := { name := "glassTrue", fn := fun _ => fun
  | [d1, d2, d3] => { results := [.lit (.bool false)], args := [d1, d2, d3] }
  | _ => none }
def GlassTrueWrongFalsely : Prop := glassTrueRow.holds Try.pinned (OpenSpec.ofChange glassTrueWrong)

/-- 'helioscopelaw07.GlassBefore': WHATEVER THE INPUT: true; the input reads as it did. -/
def glassBeforeSpec : ChangeSpec := { name := "glassBefore", fn := fun _ => fun
  | [d1, d2, d3] => { results := [.lit (.bool true)], args := [d1, d2, d3] }
  | _ => none }
def glassBeforeRow : OpenClaim := { program := "ytgoidclnccjdeaa", sum := "ad09a685366f052e630c7125cb83df21bedb2c70d81e3247b2c2335d5cd51fb4", func := "helioscope/helioscopelaw07.GlassBefore", spec := "glassBefore", unfollowed := true, recurses := true, plainKeys := false, apart := false }
def GlassBeforeSaid : Prop := glassBeforeRow.holds Try.pinned (OpenSpec.ofChange glassBeforeSpec)

/-- ITS FALSE NEIGHBOUR: 'it returns false'. Refute it at one input. -/
def glassBeforeWrong : ChangeSpec := { name := "glassBefore", fn := fun _ => fun
  | [d1, d2, d3] => { results := [.lit (.bool false)], args := [d1, d2, d3] }
  | _ => none }
def GlassBeforeWrongFalsely : Prop := glassBeforeRow.holds Try.pinned (OpenSpec.ofChange glassBeforeWrong)

/-- 'helioscopelaw07.GlassFewest': WHATEVER THE INPUT: true; the input reads as it did. -/
def glassFewestSpec : ChangeSpec := { name := "glassFewest", fn := fun _ => fun
  | [d1, d2] => { results := [.lit (.bool true)], args := [d1, d2] }
  | _ => none }
def glassFewestRow : OpenClaim := { program := "ytgoidclnccjdeaa", sum := "ad09a685366f052e630c7125cb83df21bedb2c70d81e3247b2c2335d5cd51fb4", func := "helioscope/helioscopelaw07.GlassFewest", spec := "glassFewest", unfollowed := true, recurses := true, plainKeys := false, apart := false }
def GlassFewestSaid : Prop := glassFewestRow.holds Try.pinned (OpenSpec.ofChange glassFewestSpec)

/-- ITS FALSE NEIGHBOUR: 'it returns false'. Refute it at one input. -/
def glassFewestWrong : ChangeSpec := { name := "glassFewest", fn := fun _ => fun
  | [d1, d2] => { results := [.lit (.bool false)], args := [d1, d2] }
  | _ => none }
def GlassFewestWrongFalsely : Prop := glassFewestRow.holds Try.pinned (OpenSpec.ofChange glassFewestWrong)

/-- 'helioscopelaw07.GlassMore': WHATEVER THE INPUT: true; the input reads as it did. -/
def glassMoreSpec : ChangeSpec := { name := "glassMore", fn := fun _ => fun
  | [d1, d2, d3] => { results := [.lit (.bool true)], args := [d1, d2, d3] }
  | _ => none }
def glassMoreRow : OpenClaim := { program := "ytgoidclnccjdeaa", sum := "ad09a685366f052e630c7125cb83df21bedb2c70d81e3247b2c2335d5cd51fb4", func := "helioscope/helioscopelaw07.GlassMore", spec := "glassMore", unfollowed := true, recurses := true, plainKeys := false, apart := false }
def GlassMoreSaid : Prop := glassMoreRow.holds Try.pinned (OpenSpec.ofChange glassMoreSpec)

/-- ITS FALSE NEIGHBOUR: 'it returns false'. Refute it at one input. -/
def glassMoreWrong : ChangeSpec := { name := "glassMore", fn := fun _ => fun
  | [d1, d2, d3] => { results := [.lit (.bool false)], args := [d1, d2, d3] }
  | _ => none }
def GlassMoreWrongFalsely : Prop := glassMoreRow.holds Try.pinned (OpenSpec.ofChange glassMoreWrong)

/-- 'helioscopetop.TopAnewGlass': WHATEVER THE INPUT: true; the input reads as it did. -/
def topAnewGlassSpec : ChangeSpec := { name := "topAnewGlass", fn := fun _ => fun
  | [d] => { results := [.lit (.bool true)], args := [d] }
  | _ => none }
def topAnewGlassRow : OpenClaim := { program := "ytgoidclnccjdeaa", sum := "ad09a685366f052e630c7125cb83df21bedb2c70d81e3247b2c2335d5cd51fb4", func := "helioscope/helioscopetop.TopAnewGlass", spec := "topAnewGlass", unfollowed := true, recurses := true, plainKeys := false, apart := false }
def TopAnewGlassSaid : Prop := topAnewGlassRow.holds Try.pinned (OpenSpec.ofChange topAnewGlassSpec)

/-- ITS FALSE NEIGHBOUR: 'it returns false'. Refute it at one input. -/
def topAnewGlassWrong : ChangeSpec := { name := "topAnewGlass", fn := fun _ => fun
  | [d] => { results := [.lit (.bool false)], args := [d] }
  | _ => none }
def TopAnewGlassWrongFalsely : Prop := topAnewGlassRow.holds Try.pinned (OpenSpec.ofChange topAnewGlassWrong)

/-- 'helioscopelaw07.GlassPart': WHATEVER THE INPUT: true; the input reads as it did. -/
def glassPartSpec : ChangeSpec := { name := "glassPart", fn := fun _ => fun
  | [d1, d2] => { results := [.lit (.bool true)], args := [d1, d2] }
  | _ => none }
def glassPartRow : OpenClaim := { program := "ytgoidclnccjdeaa", sum := "ad09a685366f052e630c7125cb83df21bedb2c70d81e3247b2c2335d5cd51fb4", func := "helioscope/helioscopelaw07.GlassPart", spec := "glassPart", unfollowed := true, recurses := true, plainKeys := false, apart := false }
def GlassPartSaid : Prop := glassPartRow.holds Try.pinned (OpenSpec.ofChange glassPartSpec)

/-- ITS FALSE NEIGHBOUR: 'it returns false'. Refute it at one input. -/
def glassPartWrong : ChangeSpec := { name := "glassPart", fn := fun _ => fun
  | [d1, d2] => { results := [.lit (.bool false)], args := [d1, d2] }
  | _ => none }
def GlassPartWrongFalsely : Prop := glassPartRow.holds Try.pinned (OpenSpec.ofChange glassPartWrong)

/-- 'helioscopelaw07.GlassWhose': WHATEVER THE INPUT: true; the input reads as it did. -/
def glassWhoseSpec : ChangeSpec := { name := "glassWhose", fn := fun _ => fun
  | [d1, d2] => { results := [.lit (.bool true)], args := [d1, d2] }
  | _ => none }
def glassWhoseRow : OpenClaim := { program := "ytgoidclnccjdeaa", sum := "ad09a685366f052e630c7125cb83df21bedb2c70d81e3247b2c2335d5cd51fb4", func := "helioscope/helioscopelaw07.GlassWhose", spec := "glassWhose", unfollowed := true, recurses := true, plainKeys := false, apart := false }
def GlassWhoseSaid : Prop := glassWhoseRow.holds Try.pinned (OpenSpec.ofChange glassWhoseSpec)

/-- ITS FALSE NEIGHBOUR: 'it returns false'. Refute it at one input. -/
def glassWhoseWrong : ChangeSpec := { name := "glassWhose", fn := fun _ => fun
  | [d1, d2] => { results := [.lit (.bool false)], args := [d1, d2] }
  | _ => none }
def GlassWhoseWrongFalsely : Prop := glassWhoseRow.holds Try.pinned (OpenSpec.ofChange glassWhoseWrong)

/-- 'helioscopelaw07.GlassPlain': WHATEVER THE INPUT: true; the input reads as it did. -/
def glassPlainSpec : ChangeSpec := { name := "glassPlain", fn := fun _ => fun
  | [d1, d2] => { results := [.lit (.bool true)], args := [d1, d2] }
  | _ => none }
def glassPlainRow : OpenClaim := { program := "ytgoidclnccjdeaa", sum := "ad09a685366f052e630c7125cb83df21bedb2c70d81e3247b2c2335d5cd51fb4", func := "helioscope/helioscopelaw07.GlassPlain", spec := "glassPlain", unfollowed := true, recurses := true, plainKeys := false, apart := false }
def GlassPlainSaid : Prop := glassPlainRow.holds Try.pinned (OpenSpec.ofChange glassPlainSpec)

/-- ITS FALSE NEIGHBOUR: 'it returns false'. Refute it at one input. -/
def glassPlainWrong : ChangeSpec := { name := "glassPlain", fn := fun _ => fun
  | [d1, d2] => { results := [.lit (.bool false)], args := [d1, d2] }
  | _ => none }
def GlassPlainWrongFalsely : Prop := glassPlainRow.holds Try.pinned (OpenSpec.ofChange glassPlainWrong)

/-- 'helioscopelaw07.GlassOrder': WHATEVER THE INPUT: true; the input reads as it did. -/
def glassOrderSpec : ChangeSpec := { name := "glassOrder", fn := fun _ => fun
  | [d1, d2] => { results := [.lit (.bool true)], args := [d1, d2] }
  | _ => none }
def glassOrderRow : OpenClaim := { program := "ytgoidclnccjdeaa", sum := "ad09a685366f052e630c7125cb83df21bedb2c70d81e3247b2c2335d5cd51fb4", func := "helioscope/helioscopelaw07.GlassOrder", spec := "glassOrder", unfollowed := true, recurses := true, plainKeys := false, apart := false }
def GlassOrderSaid : Prop := glassOrderRow.holds Try.pinned (OpenSpec.ofChange glassOrderSpec)

/-- ITS FALSE NEIGHBOUR: 'it returns false'. Refute it at one input. -/
def glassOrderWrong : ChangeSpec := { name := "glassOrder", fn := fun _ => fun
  | [d1, d2] => { results := [.lit (.bool false)], args := [d1, d2] }
  | _ => none }
def GlassOrderWrongFalsely : Prop := glassOrderRow.holds Try.pinned (OpenSpec.ofChange glassOrderWrong)

/- THE SECOND FORM. 'bulk': how many values and letters a reading holds, each counted each time it is reached (what is shared counts as often as it is met; a slice's spare places count too). A statement '..UptoSaid' is the law's where the arguments, and the package variables that the reading takes, are together of bulk at most 1048576: NARROWER than '..Said'. Prove '..Said' where nothing that the law and all that it calls make is longer than what came in: it says more and counts as full. Else prove '..UptoSaid'. A law counts once. -/
mutual
def uptoBulk {H : Type} : DataW H → Nat
  | .lit (.string bytes) => bytes.length + 1
  | .lit _ => 1
  | .nil => 1
  | .ptr d => uptoBulk d + 1
  | .slice elems spare => uptoBulkAll elems + uptoBulkAll spare + 1
  | .agg parts => uptoBulkAll parts + 1
  | .iface _ d => uptoBulk d + 1
  | .map entries => uptoBulkEntries entries + 1
  | .held _ => 1
def uptoBulkAll {H : Type} : List (DataW H) → Nat
  | [] => 0
  | d :: r => uptoBulk d + uptoBulkAll r
def uptoBulkEntries {H : Type} : List (Lit × DataW H) → Nat
  | [] => 0
  | x :: r => uptoBulkEntry x + uptoBulkEntries r
def uptoBulkEntry {H : Type} : Lit × DataW H → Nat
  | (.string bytes, d) => bytes.length + uptoBulk d + 1
  | (_, d) => uptoBulk d + 1
 end
def uptoSmall : (H : Type) → List (DataW H) → Bool := fun _ ds => decide (uptoBulkAll ds ≤ 1048576)
def OpenSpec.upto (s : _root_.Go.ChangeSpec) : _root_.Go.OpenSpec := { _root_.Go.OpenSpec.ofChange s with cond := some uptoSmall }

/-- 'helioscopelaw07.GlassSizes', WHERE WHAT IT READS IS OF BULK AT MOST 1048576: true; the input reads as it did. -/
def glassSizesUptoRow : OpenClaim := { program := "ytgoidclnccjdeaa", sum := "ad09a685366f052e630c7125cb83df21bedb2c70d81e3247b2c2335d5cd51fb4", func := "helioscope/helioscopelaw07.GlassSizes", spec := "glassSizes", unfollowed := true, recurses := true, plainKeys := false, apart := false, narrowed := true }
def GlassSizesUptoSaid : Prop := glassSizesUptoRow.holds Try.pinned (OpenSpec.upto glassSizesSpec)

/-- 'helioscopelaw07.GlassUsed', WHERE WHAT IT READS IS OF BULK AT MOST 1048576: true; the input reads as it did. -/
def glassUsedUptoRow : OpenClaim := { program := "ytgoidclnccjdeaa", sum := "ad09a685366f052e630c7125cb83df21bedb2c70d81e3247b2c2335d5cd51fb4", func := "helioscope/helioscopelaw07.GlassUsed", spec := "glassUsed", unfollowed := true, recurses := true, plainKeys := false, apart := false, narrowed := true }
def GlassUsedUptoSaid : Prop := glassUsedUptoRow.holds Try.pinned (OpenSpec.upto glassUsedSpec)

/-- 'helioscopelaw07.GlassParts', WHERE WHAT IT READS IS OF BULK AT MOST 1048576: true; the input reads as it did. -/
def glassPartsUptoRow : OpenClaim := { program := "ytgoidclnccjdeaa", sum := "ad09a685366f052e630c7125cb83df21bedb2c70d81e3247b2c2335d5cd51fb4", func := "helioscope/helioscopelaw07.GlassParts", spec := "glassParts", unfollowed := true, recurses := true, plainKeys := false, apart := false, narrowed := true }
def GlassPartsUptoSaid : Prop := glassPartsUptoRow.holds Try.pinned (OpenSpec.upto glassPartsSpec)

/-- 'helioscopelaw07.GlassWrongs', WHERE WHAT IT READS IS OF BULK AT MOST 1048576: true; the input reads as it did. -/
def glassWrongsUptoRow : OpenClaim := { program := "ytgoidclnccjdeaa", sum := "ad09a685366f052e630c7125cb83df21bedb2c70d81e3247b2c2335d5cd51fb4", func := "helioscope/helioscopelaw07.GlassWrongs", spec := "glassWrongs", unfollowed := true, recurses := true, plainKeys := false, apart := false, narrowed := true }
def GlassWrongsUptoSaid : Prop := glassWrongsUptoRow.holds Try.pinned (OpenSpec.upto glassWrongsSpec)

/-- 'helioscopelaw07.GlassKnown', WHERE WHAT IT READS IS OF BULK AT MOST 1048576: true; the input reads as it did. -/
def glassKnownUptoRow : OpenClaim := { program := "ytgoidclnccjdeaa", sum := "ad09a685366f052e630c7125cb83df21bedb2c70d81e3247b2c2335d5cd51fb4", func := "helioscope/helioscopelaw07.GlassKnown", spec := "glassKnown", unfollowed := true, recurses := true, plainKeys := false, apart := false, narrowed := true }
def GlassKnownUptoSaid : Prop := glassKnownUptoRow.holds Try.pinned (OpenSpec.upto glassKnownSpec)

/-- 'helioscopelaw07.GlassTrue', WHERE WHAT IT READS IS OF BULK AT MOST 1048576: true; the input reads as it did. -/
def glassTrueUptoRow : OpenClaim := { program := "ytgoidclnccjdeaa", sum := "ad09a685366f052e630c7125cb83df21bedb2c70d81e3247b2c2335d5cd51fb4", func := "helioscope/helioscopelaw07.GlassTrue", spec := "glassTrue", unfollowed := true, recurses := true, plainKeys := false, apart := false, narrowed := true }
def GlassTrueUptoSaid : Prop := glassTrueUptoRow.holds Try.pinned (OpenSpec.upto glassTrueSpec)

/-- 'helioscopelaw07.GlassBefore', WHERE WHAT IT READS IS OF BULK AT MOST 1048576: true; the input reads as it did. -/
def glassBeforeUptoRow : OpenClaim := { program := "ytgoidclnccjdeaa", sum := "ad09a685366f052e630c7125cb83df21bedb2c70d81e3247b2c2335d5cd51fb4", func := "helioscope/helioscopelaw07.GlassBefore", spec := "glassBefore", unfollowed := true, recurses := true, plainKeys := false, apart := false, narrowed := true }
def GlassBeforeUptoSaid : Prop := glassBeforeUptoRow.holds Try.pinned (OpenSpec.upto glassBeforeSpec)

/-- 'helioscopelaw07.GlassFewest', WHERE WHAT IT READS IS OF BULK AT MOST 1048576: true; the input reads as it did. -/
def glassFewestUptoRow : OpenClaim := { program := "ytgoidclnccjdeaa", sum := "ad09a685366f052e630c7125cb83df21bedb2c70d81e3247b2c2335d5cd51fb4", func := "helioscope/helioscopelaw07.GlassFewest", spec := "glassFewest", unfollowed := true, recurses := true, plainKeys := false, apart := false, narrowed := true }
def GlassFewestUptoSaid : Prop := glassFewestUptoRow.holds Try.pinned (OpenSpec.upto glassFewestSpec)

/-- 'helioscopelaw07.GlassMore', WHERE WHAT IT READS IS OF BULK AT MOST 1048576: true; the input reads as it did. -/
def glassMoreUptoRow : OpenClaim := { program := "ytgoidclnccjdeaa", sum := "ad09a685366f052e630c7125cb83df21bedb2c70d81e3247b2c2335d5cd51fb4", func := "helioscope/helioscopelaw07.GlassMore", spec := "glassMore", unfollowed := true, recurses := true, plainKeys := false, apart := false, narrowed := true }
def GlassMoreUptoSaid : Prop := glassMoreUptoRow.holds Try.pinned (OpenSpec.upto glassMoreSpec)

/-- 'helioscopetop.TopAnewGlass', WHERE WHAT IT READS IS OF BULK AT MOST 1048576: true; the input reads as it did. -/
def topAnewGlassUptoRow : OpenClaim := { program := "ytgoidclnccjdeaa", sum := "ad09a685366f052e630c7125cb83df21bedb2c70d81e3247b2c2335d5cd51fb4", func := "helioscope/helioscopetop.TopAnewGlass", spec := "topAnewGlass", unfollowed := true, recurses := true, plainKeys := false, apart := false, narrowed := true }
def TopAnewGlassUptoSaid : Prop := topAnewGlassUptoRow.holds Try.pinned (OpenSpec.upto topAnewGlassSpec)

/-- 'helioscopelaw07.GlassPart', WHERE WHAT IT READS IS OF BULK AT MOST 1048576: true; the input reads as it did. -/
def glassPartUptoRow : OpenClaim := { program := "ytgoidclnccjdeaa", sum := "ad09a685366f052e630c7125cb83df21bedb2c70d81e3247b2c2335d5cd51fb4", func := "helioscope/helioscopelaw07.GlassPart", spec := "glassPart", unfollowed := true, recurses := true, plainKeys := false, apart := false, narrowed := true }
def GlassPartUptoSaid : Prop := glassPartUptoRow.holds Try.pinned (OpenSpec.upto glassPartSpec)

/-- 'helioscopelaw07.GlassWhose', WHERE WHAT IT READS IS OF BULK AT MOST 1048576: true; the input reads as it did. -/
def glassWhoseUptoRow : OpenClaim := { program := "ytgoidclnccjdeaa", sum := "ad09a685366f052e630c7125cb83df21bedb2c70d81e3247b2c2335d5cd51fb4", func := "helioscope/helioscopelaw07.GlassWhose", spec := "glassWhose", unfollowed := true, recurses := true, plainKeys := false, apart := false, narrowed := true }
def GlassWhoseUptoSaid : Prop := glassWhoseUptoRow.holds Try.pinned (OpenSpec.upto glassWhoseSpec)

/-- 'helioscopelaw07.GlassPlain', WHERE WHAT IT READS IS OF BULK AT MOST 1048576: true; the input reads as it did. -/
def glassPlainUptoRow : OpenClaim := { program := "ytgoidclnccjdeaa", sum := "ad09a685366f052e630c7125cb83df21bedb2c70d81e3247b2c2335d5cd51fb4", func := "helioscope/helioscopelaw07.GlassPlain", spec := "glassPlain", unfollowed := true, recurses := true, plainKeys := false, apart := false, narrowed := true }
def GlassPlainUptoSaid : Prop := glassPlainUptoRow.holds Try.pinned (OpenSpec.upto glassPlainSpec)

/-- 'helioscopelaw07.GlassOrder', WHERE WHAT IT READS IS OF BULK AT MOST 1048576: true; the input reads as it did. -/
def glassOrderUptoRow : OpenClaim := { program := "ytgoidclnccjdeaa", sum := "ad09a685366f052e630c7125cb83df21bedb2c70d81e3247b2c2335d5cd51fb4", func := "helioscope/helioscopelaw07.GlassOrder", spec := "glassOrder", unfollowed := true, recurses := true, plainKeys := false, apart := false, narrowed := true }
def GlassOrderUptoSaid : Prop := glassOrderUptoRow.holds Try.pinned (OpenSpec.upto glassOrderSpec)

end Rows
end Go.Proofs.Ytgoidclnccjdeaa
