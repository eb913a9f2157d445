/-
  No cell of these rows narrows 'for every input' (looked for: loops, veiled, ifaces, maps, wideKeys, modest, calm, conditions, laid).
  DERIVED. THE GIVEN ROWS OF THIS SEAT. 13 by the template 'for every input the law returns true; each argument reads behind the call as it read before'; 0 by the template 'total and deterministic' (their statements: YtccogmkhijgelaaTotals.lean).
  GIVEN WITH THE SEED: the statements are not yours to turn. If you find one false, say at which input.
  Laid BY PROGRAM, IN A SANDBOX (cutbox-rows.mjs): the forced cells as the released guide's own fill.sh prints them over the translation bf369dc9c1524696… (all of the seat's roots in one cut). By AI agents, Wed Nov 11 2026. No macro, syntax, notation, axiom, sorry.
-/
import Derived.Test.YtccogmkhijgelaaChecked
import GoSem.Claim
import GoSem.ClaimJoined
import GoSem.ClaimMapViews
import Derived.JoinedTies
import Derived.KernelRfl
namespace Go.Proofs.Ytccogmkhijgelaa
/- THE CELL 'sum', in the pinned program and in every row, IS THE sha256 OF THE DUMP (.gsa) THAT YtccogmkhijgelaaProg.lean LOADS. Nothing in Lean hashes anything: it is a label: what it is worth is what the hold of that sum in a sandbox is worth. -/
noncomputable def Try.pinned : Pinned := { name := "ytccogmkhijgelaa", sum := "bf369dc9c1524696e05e30a64792a6e96c73e13af74e43adfd38484ac56497db", checked := Try.checked }
namespace Rows
def none {H : Type} : Left H := { results := [], args := [] }

/-- 'duodecimolaw07.StemTrees': WHATEVER THE INPUT: true; the input reads as it did. -/
def stemTreesSpec : ChangeSpec := { name := "stemTrees", fn := fun _ => fun
  | [d1, d2, d3] => { results := [.lit (.bool true)], args := [d1, d2, d3] }
  | _ => none }
def stemTreesRow : OpenClaim := { program := "ytccogmkhijgelaa", sum := "bf369dc9c1524696e05e30a64792a6e96c73e13af74e43adfd38484ac56497db", func := "duodecimo/duodecimolaw07.StemTrees", spec := "stemTrees", unfollowed := true, recurses := true, plainKeys := false, apart := false }
def StemTreesSaid : Prop := stemTreesRow.holds Try.pinned (OpenSpec.ofChange stemTreesSpec)

/-- ITS FALSE NEIGHBOUR: 'it returns false'. Refute it at one input. -/
def stemTreesWrong : ChangeSpec := { name := "stemTrees", fn := fun _ => fun
  | [d1, d2, d3] => { results := [.lit (.bool false)], args := [d1, d2, d3] }
  | _ => none }
def StemTreesWrongFalsely : Prop := stemTreesRow.holds Try.pinned (OpenSpec.ofChange stemTreesWrong)

/-- 'duodecimolaw07.StemBest': WHATEVER THE INPUT: true; the input reads as it did. -/
def stemBestSpec : ChangeSpec := { name := "stemBest", fn := fun _ => fun
  | [d1, d2] => { results := [.lit (.bool true)], args := [d1, d2] }
  | _ => none }
def stemBestRow : OpenClaim := { program := "ytccogmkhijgelaa", sum := "bf369dc9c1524696e05e30a64792a6e96c73e13af74e43adfd38484ac56497db", func := "duodecimo/duodecimolaw07.StemBest", spec := "stemBest", unfollowed := true, recurses := true, plainKeys := false, apart := false }
def StemBestSaid : Prop := stemBestRow.holds Try.pinned (OpenSpec.ofChange stemBestSpec)

/-- ITS FALSE NEIGHBOUR: 'it returns false'. Refute it at one input. -/
def stemBestWrong : ChangeSpec := { name := "stemBest", fn := fun _ => fun
  | [d1, d2] => { results := [.lit (.bool false)], args := [d1, d2] }
  | _ => none }
def StemBestWrongFalsely : Prop := stemBestRow.holds Try.pinned (OpenSpec.ofChange stemBestWrong)

/-- 'duodecimolaw07.StemReadings': WHATEVER THE INPUT: true; the input reads as it did. -/
def stemReadingsSpec : ChangeSpec := { name := "stemReadings", fn := fun _ => fun
  | [d1, d2, d3] => { results := [.lit (.bool true)], args := [d1, d2, d3] }
  | _ => none }
def stemReadingsRow : OpenClaim := { program := "ytccogmkhijgelaa", sum := "bf369dc9c1524696e05e30a64792a6e96c73e13af74e43adfd38484ac56497db", func := "duodecimo/duodecimolaw07.StemReadings", spec := "stemReadings", unfollowed := true, recurses := true, plainKeys := false, apart := false }
def StemReadingsSaid : Prop := stemReadingsRow.holds Try.pinned (OpenSpec.ofChange stemReadingsSpec)

/-- ITS FALSE NEIGHBOUR: 'it returns false'. Refute it at one input. -/
def stemReadingsWrong : ChangeSpec := { name := "stemReadings", fn := fun _ => fun
  | [d1, d2, d3] => { results := [.lit (.bool false)], args := [d1, d2, d3] }
  | _ => none }
def StemReadingsWrongFalsely : Prop := stemReadingsRow.holds Try.pinned (OpenSpec.ofChange stemReadingsWrong)

/-- 'duodecimolaw07.StemKnown': WHATEVER THE INPUT: true; the input reads as it did. -/
def stemKnownSpec : ChangeSpec := { name := "stemKnown", fn := fun _ => fun
  | [] => { results := [.lit (.bool true)], args := [] }
  | _ => none }
def stemKnownRow : OpenClaim := { program := "ytccogmkhijgelaa", sum := "bf369dc9c1524696e05e30a64792a6e96c73e13af74e43adfd38484ac56497db", func := "duodecimo/duodecimolaw07.StemKnown", spec := "stemKnown", unfollowed := true, recurses := true, plainKeys := false, apart := false }
def StemKnownSaid : Prop := stemKnownRow.holds Try.pinned (OpenSpec.ofChange stemKnownSpec)

/-- ITS FALSE NEIGHBOUR: 'it returns false'. Refute it at one input. -/
def stemKnownWrong : ChangeSpec := { name := "stemKnown", fn := fun _ => fun
  | [] => { results := [.lit (.bool false)], args := [] }
  | _ => none }
def StemKnownWrongFalsely : Prop := stemKnownRow.holds Try.pinned (OpenSpec.ofChange stemKnownWrong)

/-- 'duodecimolaw07.StemLeast': WHATEVER THE INPUT: true; the input reads as it did. -/
def stemLeastSpec : ChangeSpec := { name := "stemLeast", fn := fun _ => fun
  | [d1, d2] => { results := [.lit (.bool true)], args := [d1, d2] }
  | _ => none }
def stemLeastRow : OpenClaim := { program := "ytccogmkhijgelaa", sum := "bf369dc9c1524696e05e30a64792a6e96c73e13af74e43adfd38484ac56497db", func := "duodecimo/duodecimolaw07.StemLeast", spec := "stemLeast", unfollowed := true, recurses := true, plainKeys := false, apart := false }
def StemLeastSaid : Prop := stemLeastRow.holds Try.pinned (OpenSpec.ofChange stemLeastSpec)

/-- ITS FALSE NEIGHBOUR: 'it returns false'. Refute it at one input. -/
def stemLeastWrong : ChangeSpec := { name := "stemLeast", fn := fun _ => fun
  | [d1, d2] => { results := [.lit (.bool false)], args := [d1, d2] }
  | _ => none }
def StemLeastWrongFalsely : Prop := stemLeastRow.holds Try.pinned (OpenSpec.ofChange stemLeastWrong)

/-- 'duodecimolaw07.StemTrue': WHATEVER THE INPUT: true; the input reads as it did. -/
def stemTrueSpec : ChangeSpec := { name := "stemTrue", fn := fun _ => fun
  | [d1, d2] => { results := [.lit (.bool true)], args := [d1, d2] }
  | _ => none }
def stemTrueRow : OpenClaim := { program := "ytccogmkhijgelaa", sum := "bf369dc9c1524696e05e30a64792a6e96c73e13af74e43adfd38484ac56497db", func := "duodecimo/duodecimolaw07.StemTrue", spec := "stemTrue", unfollowed := true, recurses := true, plainKeys := false, apart := false }
def StemTrueSaid : Prop := stemTrueRow.holds Try.pinned (OpenSpec.ofChange stemTrueSpec)

/-- ITS FALSE NEIGHBOUR: 'it returns false'. Refute it at one input. -/
def stemTrueWrong : ChangeSpec := { name := "stemTrue", fn := fun _ => fun
  | [d1, d2] => { results := [.lit (.bool false)], args := [d1, d2] }
  | _ => none }
def StemTrueWrongFalsely : Prop := stemTrueRow.holds Try.pinned (OpenSpec.ofChange stemTrueWrong)

/-- 'duodecimolaw07.StemFilled': WHATEVER THE INPUT: true; the input reads as it did. -/
def stemFilledSpec : ChangeSpec := { name := "stemFilled", fn := fun _ => fun
  | [d1, d2, d3] => { results := [.lit (.bool true)], args := [d1, d2, d3] }
  | _ => none }
def stemFilledRow : OpenClaim := { program := "ytccogmkhijgelaa", sum := "bf369dc9c1524696e05e30a64792a6e96c73e13af74e43adfd38484ac56497db", func := "duodecimo/duodecimolaw07.StemFilled", spec := "stemFilled", unfollowed := true, recurses := true, plainKeys := false, apart := false }
def StemFilledSaid : Prop := stemFilledRow.holds Try.pinned (OpenSpec.ofChange stemFilledSpec)

/-- ITS FALSE NEIGHBOUR: 'it returns false'. Refute it at one input. -/
def stemFilledWrong : ChangeSpec := { name := "stemFilled", fn := fun _ => fun
  | [d1, d2, d3] => { results := [.lit (.bool false)], args := [d1, d2, d3] }
  | _ => none }
def StemFilledWrongFalsely : Prop := stemFilledRow.holds Try.pinned (OpenSpec.ofChange stemFilledWrong)

/-- 'duodecimolaw07.StemApart': WHATEVER THE INPUT: true; the input reads as it did. -/
def stemApartSpec : ChangeSpec := { name := "stemApart", fn := fun _ => fun
  | [d1, d2] => { results := [.lit (.bool true)], args := [d1, d2] }
  | _ => none }
def stemApartRow : OpenClaim := { program := "ytccogmkhijgelaa", sum := "bf369dc9c1524696e05e30a64792a6e96c73e13af74e43adfd38484ac56497db", func := "duodecimo/duodecimolaw07.StemApart", spec := "stemApart", unfollowed := true, recurses := true, plainKeys := false, apart := false }
def StemApartSaid : Prop := stemApartRow.holds Try.pinned (OpenSpec.ofChange stemApartSpec)

/-- ITS FALSE NEIGHBOUR: 'it returns false'. Refute it at one input. -/
def stemApartWrong : ChangeSpec := { name := "stemApart", fn := fun _ => fun
  | [d1, d2] => { results := [.lit (.bool false)], args := [d1, d2] }
  | _ => none }
def StemApartWrongFalsely : Prop := stemApartRow.holds Try.pinned (OpenSpec.ofChange stemApartWrong)

/-- 'duodecimolaw07.StemMore': WHATEVER THE INPUT: true; the input reads as it did. -/
def stemMoreSpec : ChangeSpec := { name := "stemMore", fn := fun _ => fun
  | [d1, d2, d3] => { results := [.lit (.bool true)], args := [d1, d2, d3] }
  | _ => none }
def stemMoreRow : OpenClaim := { program := "ytccogmkhijgelaa", sum := "bf369dc9c1524696e05e30a64792a6e96c73e13af74e43adfd38484ac56497db", func := "duodecimo/duodecimolaw07.StemMore", spec := "stemMore", unfollowed := true, recurses := true, plainKeys := false, apart := false }
def StemMoreSaid : Prop := stemMoreRow.holds Try.pinned (OpenSpec.ofChange stemMoreSpec)

/-- ITS FALSE NEIGHBOUR: 'it returns false'. Refute it at one input. -/
def stemMoreWrong : ChangeSpec := { name := "stemMore", fn := fun _ => fun
  | [d1, d2, d3] => { results := [.lit (.bool false)], args := [d1, d2, d3] }
  | _ => none }
def StemMoreWrongFalsely : Prop := stemMoreRow.holds Try.pinned (OpenSpec.ofChange stemMoreWrong)

/-- 'duodecimolaw07.StemClean': WHATEVER THE INPUT: true; the input reads as it did. -/
def stemCleanSpec : ChangeSpec := { name := "stemClean", fn := fun _ => fun
  | [d1, d2] => { results := [.lit (.bool true)], args := [d1, d2] }
  | _ => none }
def stemCleanRow : OpenClaim := { program := "ytccogmkhijgelaa", sum := "bf369dc9c1524696e05e30a64792a6e96c73e13af74e43adfd38484ac56497db", func := "duodecimo/duodecimolaw07.StemClean", spec := "stemClean", unfollowed := true, recurses := true, plainKeys := false, apart := false }
def StemCleanSaid : Prop := stemCleanRow.holds Try.pinned (OpenSpec.ofChange stemCleanSpec)

/-- ITS FALSE NEIGHBOUR: 'it returns false'. Refute it at one input. -/
def stemCleanWrong : ChangeSpec := { name := "stemClean", fn := fun _ => fun
  | [d1, d2] => { results := [.lit (.bool false)], args := [d1, d2] }
  | _ => none }
def StemCleanWrongFalsely : Prop := stemCleanRow.holds Try.pinned (OpenSpec.ofChange stemCleanWrong)

/-- 'duodecimolaw07.StemNamed': WHATEVER THE INPUT: true; the input reads as it did. -/
def stemNamedSpec : ChangeSpec := { name := "stemNamed", fn := fun _ => fun
  | [d1, d2] => { results := [.lit (.bool true)], args := [d1, d2] }
  | _ => none }
def stemNamedRow : OpenClaim := { program := "ytccogmkhijgelaa", sum := "bf369dc9c1524696e05e30a64792a6e96c73e13af74e43adfd38484ac56497db", func := "duodecimo/duodecimolaw07.StemNamed", spec := "stemNamed", unfollowed := true, recurses := true, plainKeys := false, apart := false }
def StemNamedSaid : Prop := stemNamedRow.holds Try.pinned (OpenSpec.ofChange stemNamedSpec)

/-- ITS FALSE NEIGHBOUR: 'it returns false'. Refute it at one input. -/
def stemNamedWrong : ChangeSpec := { name := "stemNamed", fn := fun _ => fun
  | [d1, d2] => { results := [.lit (.bool false)], args := [d1, d2] }
  | _ => none }
def StemNamedWrongFalsely : Prop := stemNamedRow.holds Try.pinned (OpenSpec.ofChange stemNamedWrong)

/-- 'duodecimolaw07.StemYears': WHATEVER THE INPUT: true; the input reads as it did. -/
def stemYearsSpec : ChangeSpec := { name := "stemYears", fn := fun _ => fun
  | [d1, d2] => { results := [.lit (.bool true)], args := [d1, d2] }
  | _ => none }
def stemYearsRow : OpenClaim := { program := "ytccogmkhijgelaa", sum := "bf369dc9c1524696e05e30a64792a6e96c73e13af74e43adfd38484ac56497db", func := "duodecimo/duodecimolaw07.StemYears", spec := "stemYears", unfollowed := true, recurses := true, plainKeys := false, apart := false }
def StemYearsSaid : Prop := stemYearsRow.holds Try.pinned (OpenSpec.ofChange stemYearsSpec)

/-- ITS FALSE NEIGHBOUR: 'it returns false'. Refute it at one input. -/
def stemYearsWrong : ChangeSpec := { name := "stemYears", fn := fun _ => fun
  | [d1, d2] => { results := [.lit (.bool false)], args := [d1, d2] }
  | _ => none }
def StemYearsWrongFalsely : Prop := stemYearsRow.holds Try.pinned (OpenSpec.ofChange stemYearsWrong)

/-- 'duodecimolaw07.StemSecond': WHATEVER THE INPUT: true; the input reads as it did. -/
def stemSecondSpec : ChangeSpec := { name := "stemSecond", fn := fun _ => fun
  | [d1, d2, d3] => { results := [.lit (.bool true)], args := [d1, d2, d3] }
  | _ => none }
def stemSecondRow : OpenClaim := { program := "ytccogmkhijgelaa", sum := "bf369dc9c1524696e05e30a64792a6e96c73e13af74e43adfd38484ac56497db", func := "duodecimo/duodecimolaw07.StemSecond", spec := "stemSecond", unfollowed := true, recurses := true, plainKeys := false, apart := false }
def StemSecondSaid : Prop := stemSecondRow.holds Try.pinned (OpenSpec.ofChange stemSecondSpec)

/-- ITS FALSE NEIGHBOUR: 'it returns false'. Refute it at one input. -/
def stemSecondWrong : ChangeSpec := { name := "stemSecond", fn := fun _ => fun
  | [d1, d2, d3] => { results := [.lit (.bool false)], args := [d1, d2, d3] }
  | _ => none }
def StemSecondWrongFalsely : Prop := stemSecondRow.holds Try.pinned (OpenSpec.ofChange stemSecondWrong)

/- THE SECOND FORM. 'bulk': how many values and letters a reading holds, each counted each time it is reached (what is shared counts as often as it is met; a slice's spare places count too). A statement '..UptoSaid' is the law's where the arguments, and the package variables that the reading takes, are together of bulk at most 1048576: NARROWER than '..Said'. Prove '..Said' where nothing that the law and all that it calls make is longer than what came in: it says more and counts as full. Else prove '..UptoSaid'. A law counts once. -/
mutual
def uptoBulk {H : Type} : DataW H → Nat
  | .lit (.string bytes) => bytes.length + 1
  | .lit _ => 1
  | .nil => 1
  | .ptr d => uptoBulk d + 1
  | .slice elems spare => uptoBulkAll elems + uptoBulkAll spare + 1
  | .agg parts => uptoBulkAll parts + 1
  | .iface _ d => uptoBulk d + 1
  | .map entries => uptoBulkEntries entries + 1
  | .held _ => 1
def uptoBulkAll {H : Type} : List (DataW H) → Nat
  | [] => 0
  | d :: r => uptoBulk d + uptoBulkAll r
def uptoBulkEntries {H : Type} : List (Lit × DataW H) → Nat
  | [] => 0
  | x :: r => uptoBulkEntry x + uptoBulkEntries r
def uptoBulkEntry {H : Type} : Lit × DataW H → Nat
  | (.string bytes, d) => bytes.length + uptoBulk d + 1
  | (_, d) => uptoBulk d + 1
 end
def uptoSmall : (H : Type) → List (DataW H) → Bool := fun _ ds => decide (uptoBulkAll ds ≤ 1048576)
def OpenSpec.upto (s : _root_.Go.ChangeSpec) : _root_.Go.OpenSpec := { _root_.Go.OpenSpec.ofChange s with cond := some uptoSmall }

/-- 'duodecimolaw07.StemTrees', WHERE WHAT IT READS IS OF BULK AT MOST 1048576: true; the input reads as it did. -/
def stemTreesUptoRow : OpenClaim := { program := "ytccogmkhijgelaa", sum := "bf369dc9c1524696e05e30a64792a6e96c73e13af74e43adfd38484ac56497db", func := "duodecimo/duodecimolaw07.StemTrees", spec := "stemTrees", unfollowed := true, recurses := true, plainKeys := false, apart := false, narrowed := true }
def StemTreesUptoSaid : Prop := stemTreesUptoRow.holds Try.pinned (OpenSpec.upto stemTreesSpec)

/-- 'duodecimolaw07.StemBest', WHERE WHAT IT READS IS OF BULK AT MOST 1048576: true; the input reads as it did. -/
def stemBestUptoRow : OpenClaim := { program := "ytccogmkhijgelaa", sum := "bf369dc9c1524696e05e30a64792a6e96c73e13af74e43adfd38484ac56497db", func := "duodecimo/duodecimolaw07.StemBest", spec := "stemBest", unfollowed := true, recurses := true, plainKeys := false, apart := false, narrowed := true }
def StemBestUptoSaid : Prop := stemBestUptoRow.holds Try.pinned (OpenSpec.upto stemBestSpec)

/-- 'duodecimolaw07.StemReadings', WHERE WHAT IT READS IS OF BULK AT MOST 1048576: true; the input reads as it did. -/
def stemReadingsUptoRow : OpenClaim := { program := "ytccogmkhijgelaa", sum := "bf369dc9c1524696e05e30a64792a6e96c73e13af74e43adfd38484ac56497db", func := "duodecimo/duodecimolaw07.StemReadings", spec := "stemReadings", unfollowed := true, recurses := true, plainKeys := false, apart := false, narrowed := true }
def StemReadingsUptoSaid : Prop := stemReadingsUptoRow.holds Try.pinned (OpenSpec.upto stemReadingsSpec)

/-- 'duodecimolaw07.StemKnown', WHERE WHAT IT READS IS OF BULK AT MOST 1048576: true; the input reads as it did. -/
def stemKnownUptoRow : OpenClaim := { program := "ytccogmkhijgelaa", sum := "bf369dc9c1524696e05e30a64792a6e96c73e13af74e43adfd38484ac56497db", func := "duodecimo/duodecimolaw07.StemKnown", spec := "stemKnown", unfollowed := true, recurses := true, plainKeys := false, apart := false, narrowed := true }
def StemKnownUptoSaid : Prop := stemKnownUptoRow.holds Try.pinned (OpenSpec.upto stemKnownSpec)

/-- 'duodecimolaw07.StemLeast', WHERE WHAT IT READS IS OF BULK AT MOST 1048576: true; the input reads as it did. -/
def stemLeastUptoRow : OpenClaim := { program := "ytccogmkhijgelaa", sum := "bf369dc9c1524696e05e30a64792a6e96c73e13af74e43adfd38484ac56497db", func := "duodecimo/duodecimolaw07.StemLeast", spec := "stemLeast", unfollowed := true, recurses := true, plainKeys := false, apart := false, narrowed := true }
def StemLeastUptoSaid : Prop := stemLeastUptoRow.holds Try.pinned (OpenSpec.upto stemLeastSpec)

/-- 'duodecimolaw07.StemTrue', WHERE WHAT IT READS IS OF BULK AT MOST 1048576: true; the input reads as it did. -/
def stemTrueUptoRow : OpenClaim := { program := "ytccogmkhijgelaa", sum := "bf369dc9c1524696e05e30a64792a6e96c73e13af74e43adfd38484ac56497db", func := "duodecimo/duodecimolaw07.StemTrue", spec := "stemTrue", unfollowed := true, recurses := true, plainKeys := false, apart := false, narrowed := true }
def StemTrueUptoSaid : Prop := stemTrueUptoRow.holds Try.pinned (OpenSpec.upto stemTrueSpec)

/-- 'duodecimolaw07.StemFilled', WHERE WHAT IT READS IS OF BULK AT MOST 1048576: true; the input reads as it did. -/
def stemFilledUptoRow : OpenClaim := { program := "ytccogmkhijgelaa", sum := "bf369dc9c1524696e05e30a64792a6e96c73e13af74e43adfd38484ac56497db", func := "duodecimo/duodecimolaw07.StemFilled", spec := "stemFilled", unfollowed := true, recurses := true, plainKeys := false, apart := false, narrowed := true }
def StemFilledUptoSaid : Prop := stemFilledUptoRow.holds Try.pinned (OpenSpec.upto stemFilledSpec)

/-- 'duodecimolaw07.StemApart', WHERE WHAT IT READS IS OF BULK AT MOST 1048576: true; the input reads as it did. -/
def stemApartUptoRow : OpenClaim := { program := "ytccogmkhijgelaa", sum := "bf369dc9c1524696e05e30a64792a6e96c73e13af74e43adfd38484ac56497db", func := "duodecimo/duodecimolaw07.StemApart", spec := "stemApart", unfollowed := true, recurses := true, plainKeys := false, apart := false, narrowed := true }
def StemApartUptoSaid : Prop := stemApartUptoRow.holds Try.pinned (OpenSpec.upto stemApartSpec)

/-- 'duodecimolaw07.StemMore', WHERE WHAT IT READS IS OF BULK AT MOST 1048576: true; the input reads as it did. -/
def stemMoreUptoRow : OpenClaim := { program := "ytccogmkhijgelaa", sum := "bf369dc9c1524696e05e30a64792a6e96c73e13af74e43adfd38484ac56497db", func := "duodecimo/duodecimolaw07.StemMore", spec := "stemMore", unfollowed := true, recurses := true, plainKeys := false, apart := false, narrowed := true }
def StemMoreUptoSaid : Prop := stemMoreUptoRow.holds Try.pinned (OpenSpec.upto stemMoreSpec)

/-- 'duodecimolaw07.StemClean', WHERE WHAT IT READS IS OF BULK AT MOST 1048576: true; the input reads as it did. -/
def stemCleanUptoRow : OpenClaim := { program := "ytccogmkhijgelaa", sum := "bf369dc9c1524696e05e30a64792a6e96c73e13af74e43adfd38484ac56497db", func := "duodecimo/duodecimolaw07.StemClean", spec := "stemClean", unfollowed := true, recurses := true, plainKeys := false, apart := false, narrowed := true }
def StemCleanUptoSaid : Prop := stemCleanUptoRow.holds Try.pinned (OpenSpec.upto stemCleanSpec)

/-- 'duodecimolaw07.StemNamed', WHERE WHAT IT READS IS OF BULK AT MOST 1048576: true; the input reads as it did. -/
def stemNamedUptoRow : OpenClaim := { program := "ytccogmkhijgelaa", sum := "bf369dc9c1524696e05e30a64792a6e96c73e13af74e43adfd38484ac56497db", func := "duodecimo/duodecimolaw07.StemNamed", spec := "stemNamed", unfollowed := true, recurses := true, plainKeys := false, apart := false, narrowed := true }
def StemNamedUptoSaid : Prop := stemNamedUptoRow.holds Try.pinned (OpenSpec.upto stemNamedSpec)

/-- 'duodecimolaw07.StemYears', WHERE WHAT IT READS IS OF BULK AT MOST 1048576: true; the input reads as it did. -/
def stemYearsUptoRow : OpenClaim := { program := "ytccogmkhijgelaa", sum := "bf369dc9c1524696e05e30a64792a6e96c73e13af74e43adfd38484ac56497db", func := "duodecimo/duodecimolaw07.StemYears", spec := "stemYears", unfollowed := true, recurses := true, plainKeys := false, apart := false, narrowed := true }
def StemYearsUptoSaid : Prop := stemYearsUptoRow.holds Try.pinned (OpenSpec.upto stemYearsSpec)

/-- 'duodecimolaw07.StemSecond', WHERE WHAT IT READS IS OF BULK AT MOST 1048576: true; the input reads as it did. -/
def stemSecondUptoRow : OpenClaim := { program := "ytccogmkhijgelaa", sum := "bf369dc9c1524696e05e30a64792a6e96c73e13af74e43adfd38484ac56497db", func := "duodecimo/duodecimolaw07.StemSecond", spec := "stemSecond", unfollowed := true, recurses := true, plainKeys := false, apart := false, narrowed := true }
def StemSecondUptoSaid : Prop := stemSecondUptoRow.holds Try.pinned (OpenSpec.upto stemSecondSpec)

end Rows
end Go.Proofs.Ytccogmkhijgelaa
