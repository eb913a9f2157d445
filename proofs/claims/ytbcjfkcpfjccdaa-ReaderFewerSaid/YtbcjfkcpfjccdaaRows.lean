/-
  No cell of these rows narrows 'for every input' (looked for: loops, veiled, ifaces, maps, wideKeys, modest, calm, conditions, laid).
  DERIVED. THE GIVEN ROWS OF THIS SEAT. 12 by the template 'for every input the law returns true; each argument reads behind the call as it read before'; 0 by the template 'total and deterministic' (their statements: YtbcjfkcpfjccdaaTotals.lean).
  GIVEN WITH THE SEED: the statements are not yours to turn. If you find one false, say at which input.
  Laid BY PROGRAM, IN A SANDBOX (cutbox-rows.mjs): the forced cells as the released guide's own fill.sh prints them over the translation 2a98a816bcbd2216… (all of the seat's roots in one cut). By AI agents, Wed Nov 11 2026. No macro, syntax, notation, axiom, sorry.
-/
import Derived.Test.YtbcjfkcpfjccdaaChecked
import GoSem.Claim
import GoSem.ClaimJoined
import GoSem.ClaimMapViews
import Derived.JoinedTies
import Derived.KernelRfl
namespace Go.Proofs.Ytbcjfkcpfjccdaa
/- THE CELL 'sum', in the pinned program and in every row, IS THE sha256 OF THE DUMP (.gsa) THAT YtbcjfkcpfjccdaaProg.lean LOADS. Nothing in Lean hashes anything: it is a label: what it is worth is what the hold of that sum in a sandbox is worth. -/
noncomputable def Try.pinned : Pinned := { name := "ytbcjfkcpfjccdaa", sum := "2a98a816bcbd22163e8cae544b0ab4cba34872de7bf847289b01dc30bcbd64b2", checked := Try.checked }
namespace Rows
def none {H : Type} : Left H := { results := [], args := [] }

/-- 'duodecimolaw10.ReaderCans': WHATEVER THE INPUT: true; the input reads as it did. -/
def readerCansSpec : ChangeSpec := { name := "readerCans", fn := fun _ => fun
  | [d1, d2, d3] => { results := [.lit (.bool true)], args := [d1, d2, d3] }
  | _ => none }
def readerCansRow : OpenClaim := { program := "ytbcjfkcpfjccdaa", sum := "2a98a816bcbd22163e8cae544b0ab4cba34872de7bf847289b01dc30bcbd64b2", func := "duodecimo/duodecimolaw10.ReaderCans", spec := "readerCans", unfollowed := true, recurses := true, plainKeys := false, apart := false }
def ReaderCansSaid : Prop := readerCansRow.holds Try.pinned (OpenSpec.ofChange readerCansSpec)

/-- ITS FALSE NEIGHBOUR: 'it returns false'. Refute it at one input. -/
def readerCansWrong : ChangeSpec := { name := "readerCans", fn := fun _ => fun
  | [d1, d2, d3] => { results := [.lit (.bool false)], args := [d1, d2, d3] }
  | _ => none }
def ReaderCansWrongFalsely : Prop := readerCansRow.holds Try.pinned (OpenSpec.ofChange readerCansWrong)

/-- 'duodecimolaw10.ReaderSeats': WHATEVER THE INPUT: true; the input reads as it did. -/
def readerSeatsSpec : ChangeSpec := { name := "readerSeats", fn := fun _ => fun
  | [d1, d2, d3] => { results := [.lit (.bool true)], args := [d1, d2, d3] }
  | _ => none }
def readerSeatsRow : OpenClaim := { program := "ytbcjfkcpfjccdaa", sum := "2a98a816bcbd22163e8cae544b0ab4cba34872de7bf847289b01dc30bcbd64b2", func := "duodecimo/duodecimolaw10.ReaderSeats", spec := "readerSeats", unfollowed := true, recurses := true, plainKeys := false, apart := false }
def ReaderSeatsSaid : Prop := readerSeatsRow.holds Try.pinned (OpenSpec.ofChange readerSeatsSpec)

/-- ITS FALSE NEIGHBOUR: 'it returns false'. Refute it at one input. -/
def readerSeatsWrong : ChangeSpec := { name := "readerSeats", fn := fun _ => fun
  | [d1, d2, d3] => { results := [.lit (.bool false)], args := [d1, d2, d3] }
  | _ => none }
def ReaderSeatsWrongFalsely : Prop := readerSeatsRow.holds Try.pinned (OpenSpec.ofChange readerSeatsWrong)

/-- 'duodecimolaw10.ReaderBest': WHATEVER THE INPUT: true; the input reads as it did. -/
def readerBestSpec : ChangeSpec := { name := "readerBest", fn := fun _ => fun
  | [d1, d2, d3] => { results := [.lit (.bool true)], args := [d1, d2, d3] }
  | _ => none }
def readerBestRow : OpenClaim := { program := "ytbcjfkcpfjccdaa", sum := "2a98a816bcbd22163e8cae544b0ab4cba34872de7bf847289b01dc30bcbd64b2", func := "duodecimo/duodecimolaw10.ReaderBest", spec := "readerBest", unfollowed := true, recurses := true, plainKeys := false, apart := false }
def ReaderBestSaid : Prop := readerBestRow.holds Try.pinned (OpenSpec.ofChange readerBestSpec)

/-- ITS FALSE NEIGHBOUR: 'it returns false'. Refute it at one input. -/
def readerBestWrong : ChangeSpec := { name := "readerBest", fn := fun _ => fun
  | [d1, d2, d3] => { results := [.lit (.bool false)], args := [d1, d2, d3] }
  | _ => none }
def ReaderBestWrongFalsely : Prop := readerBestRow.holds Try.pinned (OpenSpec.ofChange readerBestWrong)

/-- 'duodecimolaw10.ReaderKnown': WHATEVER THE INPUT: true; the input reads as it did. -/
def readerKnownSpec : ChangeSpec := { name := "readerKnown", fn := fun _ => fun
  | [] => { results := [.lit (.bool true)], args := [] }
  | _ => none }
def readerKnownRow : OpenClaim := { program := "ytbcjfkcpfjccdaa", sum := "2a98a816bcbd22163e8cae544b0ab4cba34872de7bf847289b01dc30bcbd64b2", func := "duodecimo/duodecimolaw10.ReaderKnown", spec := "readerKnown", unfollowed := true, recurses := true, plainKeys := false, apart := false }
def ReaderKnownSaid : Prop := readerKnownRow.holds Try.pinned (OpenSpec.ofChange readerKnownSpec)

/-- ITS FALSE NEIGHBOUR: 'it returns false'. Refute it at one input. -/
def readerKnownWrong : ChangeSpec := { name := "readerKnown", fn := fun _ => fun
  | [] => { results := [.lit (.bool false)], args := [] }
  | _ => none }
def ReaderKnownWrongFalsely : Prop := readerKnownRow.holds Try.pinned (OpenSpec.ofChange readerKnownWrong)

/-- 'duodecimolaw10.ReaderLight': WHATEVER THE INPUT: true; the input reads as it did. -/
def readerLightSpec : ChangeSpec := { name := "readerLight", fn := fun _ => fun
  | [d1, d2, d3] => { results := [.lit (.bool true)], args := [d1, d2, d3] }
  | _ => none }
def readerLightRow : OpenClaim := { program := "ytbcjfkcpfjccdaa", sum := "2a98a816bcbd22163e8cae544b0ab4cba34872de7bf847289b01dc30bcbd64b2", func := "duodecimo/duodecimolaw10.ReaderLight", spec := "readerLight", unfollowed := true, recurses := true, plainKeys := false, apart := false }
def ReaderLightSaid : Prop := readerLightRow.holds Try.pinned (OpenSpec.ofChange readerLightSpec)

/-- ITS FALSE NEIGHBOUR: 'it returns false'. Refute it at one input. -/
def readerLightWrong : ChangeSpec := { name := "readerLight", fn := fun _ => fun
  | [d1, d2, d3] => { results := [.lit (.bool false)], args := [d1, d2, d3] }
  | _ => none }
def ReaderLightWrongFalsely : Prop := readerLightRow.holds Try.pinned (OpenSpec.ofChange readerLightWrong)

/-- 'duodecimolaw10.ReaderLeast': WHATEVER THE INPUT: true; the input reads as it did. -/
def readerLeastSpec : ChangeSpec := { name := "readerLeast", fn := fun _ => fun
  | [d1, d2, d3] => { results := [.lit (.bool true)], args := [d1, d2, d3] }
  | _ => none }
def readerLeastRow : OpenClaim := { program := "ytbcjfkcpfjccdaa", sum := "2a98a816bcbd22163e8cae544b0ab4cba34872de7bf847289b01dc30bcbd64b2", func := "duodecimo/duodecimolaw10.ReaderLeast", spec := "readerLeast", unfollowed := true, recurses := true, plainKeys := false, apart := false }
def ReaderLeastSaid : Prop := readerLeastRow.holds Try.pinned (OpenSpec.ofChange readerLeastSpec)

/-- ITS FALSE NEIGHBOUR: 'it returns false'. Refute it at one input. -/
def readerLeastWrong : ChangeSpec := { name := "readerLeast", fn := fun _ => fun
  | [d1, d2, d3] => { results := [.lit (.bool false)], args := [d1, d2, d3] }
  | _ => none }
def ReaderLeastWrongFalsely : Prop := readerLeastRow.holds Try.pinned (OpenSpec.ofChange readerLeastWrong)

/-- 'duodecimolaw10.ReaderTurn': WHATEVER THE INPUT: true; the input reads as it did. -/
def readerTurnSpec : ChangeSpec := { name := "readerTurn", fn := fun _ => fun
  | [d1, d2] => { results := [.lit (.bool true)], args := [d1, d2] }
  | _ => none }
def readerTurnRow : OpenClaim := { program := "ytbcjfkcpfjccdaa", sum := "2a98a816bcbd22163e8cae544b0ab4cba34872de7bf847289b01dc30bcbd64b2", func := "duodecimo/duodecimolaw10.ReaderTurn", spec := "readerTurn", unfollowed := true, recurses := true, plainKeys := false, apart := false }
def ReaderTurnSaid : Prop := readerTurnRow.holds Try.pinned (OpenSpec.ofChange readerTurnSpec)

/-- ITS FALSE NEIGHBOUR: 'it returns false'. Refute it at one input. -/
def readerTurnWrong : ChangeSpec := { name := "readerTurn", fn := fun _ => fun
  | [d1, d2] => { results := [.lit (.bool false)], args := [d1, d2] }
  | _ => none }
def ReaderTurnWrongFalsely : Prop := readerTurnRow.holds Try.pinned (OpenSpec.ofChange readerTurnWrong)

/-- 'duodecimolaw10.ReaderWorth': WHATEVER THE INPUT: true; the input reads as it did. -/
def readerWorthSpec : ChangeSpec := { name := "readerWorth", fn := fun _ => fun
  | [d1, d2] => { results := [.lit (.bool true)], args := [d1, d2] }
  | _ => none }
def readerWorthRow : OpenClaim := { program := "ytbcjfkcpfjccdaa", sum := "2a98a816bcbd22163e8cae544b0ab4cba34872de7bf847289b01dc30bcbd64b2", func := "duodecimo/duodecimolaw10.ReaderWorth", spec := "readerWorth", unfollowed := true, recurses := true, plainKeys := false, apart := false }
def ReaderWorthSaid : Prop := readerWorthRow.holds Try.pinned (OpenSpec.ofChange readerWorthSpec)

/-- ITS FALSE NEIGHBOUR: 'it returns false'. Refute it at one input. -/
def readerWorthWrong : ChangeSpec := { name := "readerWorth", fn := fun _ => fun
  | [d1, d2] => { results := [.lit (.bool false)], args := [d1, d2] }
  | _ => none }
def ReaderWorthWrongFalsely : Prop := readerWorthRow.holds Try.pinned (OpenSpec.ofChange readerWorthWrong)

/-- 'duodecimolaw10.ReaderGives': WHATEVER THE INPUT: true; the input reads as it did. -/
def readerGivesSpec : ChangeSpec := { name := "readerGives", fn := fun _ => fun
  | [d1, d2, d3] => { results := [.lit (.bool true)], args := [d1, d2, d3] }
  | _ => none }
def readerGivesRow : OpenClaim := { program := "ytbcjfkcpfjccdaa", sum := "2a98a816bcbd22163e8cae544b0ab4cba34872de7bf847289b01dc30bcbd64b2", func := "duodecimo/duodecimolaw10.ReaderGives", spec := "readerGives", unfollowed := true, recurses := true, plainKeys := false, apart := false }
def ReaderGivesSaid : Prop := readerGivesRow.holds Try.pinned (OpenSpec.ofChange readerGivesSpec)

/-- ITS FALSE NEIGHBOUR: 'it returns false'. Refute it at one input. -/
def readerGivesWrong : ChangeSpec := { name := "readerGives", fn := fun _ => fun
  | [d1, d2, d3] => { results := [.lit (.bool false)], args := [d1, d2, d3] }
  | _ => none }
def ReaderGivesWrongFalsely : Prop := readerGivesRow.holds Try.pinned (OpenSpec.ofChange readerGivesWrong)

/-- 'duodecimolaw10.ReaderFewer': WHATEVER THE INPUT: true; the input reads as it did. -/
def readerFewerSpec : ChangeSpec := { name := "readerFewer", fn := fun _ => fun
  | [d1, d2, d3] => { results := [.lit (.bool true)], args := [d1, d2, d3] }
  | _ => none }
def readerFewerRow : OpenClaim := { program := "ytbcjfkcpfjccdaa", sum := "2a98a816bcbd22163e8cae544b0ab4cba34872de7bf847289b01dc30bcbd64b2", func := "duodecimo/duodecimolaw10.ReaderFewer", spec := "readerFewer", unfollowed := true, recurses := true, plainKeys := false, apart := false }
def ReaderFewerSaid : Prop := readerFewerRow.holds Try.pinned (OpenSpec.ofChange readerFewerSpec)

/-- ITS FALSE NEIGHBOUR: 'it returns false'. Refute it at one input. -/
def readerFewerWrong : ChangeSpec := { name := "readerFewer", fn := fun _ => fun
  | [d1, d2, d3] => { results := [.lit (.bool false)], args := [d1, d2, d3] }
  | _ => none }
def ReaderFewerWrongFalsely : Prop := readerFewerRow.holds Try.pinned (OpenSpec.ofChange readerFewerWrong)

/-- 'duodecimolaw10.ReaderMeasured': WHATEVER THE INPUT: true; the input reads as it did. -/
def readerMeasuredSpec : ChangeSpec := { name := "readerMeasured", fn := fun _ => fun
  | [d1, d2] => { results := [.lit (.bool true)], args := [d1, d2] }
  | _ => none }
def readerMeasuredRow : OpenClaim := { program := "ytbcjfkcpfjccdaa", sum := "2a98a816bcbd22163e8cae544b0ab4cba34872de7bf847289b01dc30bcbd64b2", func := "duodecimo/duodecimolaw10.ReaderMeasured", spec := "readerMeasured", unfollowed := true, recurses := true, plainKeys := false, apart := false }
def ReaderMeasuredSaid : Prop := readerMeasuredRow.holds Try.pinned (OpenSpec.ofChange readerMeasuredSpec)

/-- ITS FALSE NEIGHBOUR: 'it returns false'. Refute it at one input. -/
def readerMeasuredWrong : ChangeSpec := { name := "readerMeasured", fn := fun _ => fun
  | [d1, d2] => { results := [.lit (.bool false)], args := [d1, d2] }
  | _ => none }
def ReaderMeasuredWrongFalsely : Prop := readerMeasuredRow.holds Try.pinned (OpenSpec.ofChange readerMeasuredWrong)

/-- 'duodecimolaw10.ReaderOrder': WHATEVER THE INPUT: true; the input reads as it did. -/
def readerOrderSpec : ChangeSpec := { name := "readerOrder", fn := fun _ => fun
  | [d1, d2] => { results := [.lit (.bool true)], args := [d1, d2] }
  | _ => none }
def readerOrderRow : OpenClaim := { program := "ytbcjfkcpfjccdaa", sum := "2a98a816bcbd22163e8cae544b0ab4cba34872de7bf847289b01dc30bcbd64b2", func := "duodecimo/duodecimolaw10.ReaderOrder", spec := "readerOrder", unfollowed := true, recurses := true, plainKeys := false, apart := false }
def ReaderOrderSaid : Prop := readerOrderRow.holds Try.pinned (OpenSpec.ofChange readerOrderSpec)

/-- ITS FALSE NEIGHBOUR: 'it returns false'. Refute it at one input. -/
def readerOrderWrong : ChangeSpec := { name := "readerOrder", fn := fun _ => fun
  | [d1, d2] => { results := [.lit (.bool false)], args := [d1, d2] }
  | _ => none }
def ReaderOrderWrongFalsely : Prop := readerOrderRow.holds Try.pinned (OpenSpec.ofChange readerOrderWrong)

/- THE SECOND FORM. 'bulk': how many values and letters a reading holds, each counted each time it is reached (what is shared counts as often as it is met; a slice's spare places count too). A statement '..UptoSaid' is the law's where the arguments, and the package variables that the reading takes, are together of bulk at most 1048576: NARROWER than '..Said'. Prove '..Said' where nothing that the law and all that it calls make is longer than what came in: it says more and counts as full. Else prove '..UptoSaid'. A law counts once. -/
mutual
def uptoBulk {H : Type} : DataW H → Nat
  | .lit (.string bytes) => bytes.length + 1
  | .lit _ => 1
  | .nil => 1
  | .ptr d => uptoBulk d + 1
  | .slice elems spare => uptoBulkAll elems + uptoBulkAll spare + 1
  | .agg parts => uptoBulkAll parts + 1
  | .iface _ d => uptoBulk d + 1
  | .map entries => uptoBulkEntries entries + 1
  | .held _ => 1
def uptoBulkAll {H : Type} : List (DataW H) → Nat
  | [] => 0
  | d :: r => uptoBulk d + uptoBulkAll r
def uptoBulkEntries {H : Type} : List (Lit × DataW H) → Nat
  | [] => 0
  | x :: r => uptoBulkEntry x + uptoBulkEntries r
def uptoBulkEntry {H : Type} : Lit × DataW H → Nat
  | (.string bytes, d) => bytes.length + uptoBulk d + 1
  | (_, d) => uptoBulk d + 1
 end
def uptoSmall : (H : Type) → List (DataW H) → Bool := fun _ ds => decide (uptoBulkAll ds ≤ 1048576)
def OpenSpec.upto (s : _root_.Go.ChangeSpec) : _root_.Go.OpenSpec := { _root_.Go.OpenSpec.ofChange s with cond := some uptoSmall }

/-- 'duodecimolaw10.ReaderCans', WHERE WHAT IT READS IS OF BULK AT MOST 1048576: true; the input reads as it did. -/
def readerCansUptoRow : OpenClaim := { program := "ytbcjfkcpfjccdaa", sum := "2a98a816bcbd22163e8cae544b0ab4cba34872de7bf847289b01dc30bcbd64b2", func := "duodecimo/duodecimolaw10.ReaderCans", spec := "readerCans", unfollowed := true, recurses := true, plainKeys := false, apart := false, narrowed := true }
def ReaderCansUptoSaid : Prop := readerCansUptoRow.holds Try.pinned (OpenSpec.upto readerCansSpec)

/-- 'duodecimolaw10.ReaderSeats', WHERE WHAT IT READS IS OF BULK AT MOST 1048576: true; the input reads as it did. -/
def readerSeatsUptoRow : OpenClaim := { program := "ytbcjfkcpfjccdaa", sum := "2a98a816bcbd22163e8cae544b0ab4cba34872de7bf847289b01dc30bcbd64b2", func := "duodecimo/duodecimolaw10.ReaderSeats", spec := "readerSeats", unfollowed := true, recurses := true, plainKeys := false, apart := false, narrowed := true }
def ReaderSeatsUptoSaid : Prop := readerSeatsUptoRow.holds Try.pinned (OpenSpec.upto readerSeatsSpec)

/-- 'duodecimolaw10.ReaderBest', WHERE WHAT IT READS IS OF BULK AT MOST 1048576: true; the input reads as it did. -/
def readerBestUptoRow : OpenClaim := { program := "ytbcjfkcpfjccdaa", sum := "2a98a816bcbd22163e8cae544b0ab4cba34872de7bf847289b01dc30bcbd64b2", func := "duodecimo/duodecimolaw10.ReaderBest", spec := "readerBest", unfollowed := true, recurses := true, plainKeys := false, apart := false, narrowed := true }
def ReaderBestUptoSaid : Prop := readerBestUptoRow.holds Try.pinned (OpenSpec.upto readerBestSpec)

/-- 'duodecimolaw10.ReaderKnown', WHERE WHAT IT READS IS OF BULK AT MOST 1048576: true; the input reads as it did. -/
def readerKnownUptoRow : OpenClaim := { program := "ytbcjfkcpfjccdaa", sum := "2a98a816bcbd22163e8cae544b0ab4cba34872de7bf847289b01dc30bcbd64b2", func := "duodecimo/duodecimolaw10.ReaderKnown", spec := "readerKnown", unfollowed := true, recurses := true, plainKeys := false, apart := false, narrowed := true }
def ReaderKnownUptoSaid : Prop := readerKnownUptoRow.holds Try.pinned (OpenSpec.upto readerKnownSpec)

/-- 'duodecimolaw10.ReaderLight', WHERE WHAT IT READS IS OF BULK AT MOST 1048576: true; the input reads as it did. -/
def readerLightUptoRow : OpenClaim := { program := "ytbcjfkcpfjccdaa", sum := "2a98a816bcbd22163e8cae544b0ab4cba34872de7bf847289b01dc30bcbd64b2", func := "duodecimo/duodecimolaw10.ReaderLight", spec := "readerLight", unfollowed := true, recurses := true, plainKeys := false, apart := false, narrowed := true }
def ReaderLightUptoSaid : Prop := readerLightUptoRow.holds Try.pinned (OpenSpec.upto readerLightSpec)

/-- 'duodecimolaw10.ReaderLeast', WHERE WHAT IT READS IS OF BULK AT MOST 1048576: true; the input reads as it did. -/
def readerLeastUptoRow : OpenClaim := { program := "ytbcjfkcpfjccdaa", sum := "2a98a816bcbd22163e8cae544b0ab4cba34872de7bf847289b01dc30bcbd64b2", func := "duodecimo/duodecimolaw10.ReaderLeast", spec := "readerLeast", unfollowed := true, recurses := true, plainKeys := false, apart := false, narrowed := true }
def ReaderLeastUptoSaid : Prop := readerLeastUptoRow.holds Try.pinned (OpenSpec.upto readerLeastSpec)

/-- 'duodecimolaw10.ReaderTurn', WHERE WHAT IT READS IS OF BULK AT MOST 1048576: true; the input reads as it did. -/
def readerTurnUptoRow : OpenClaim := { program := "ytbcjfkcpfjccdaa", sum := "2a98a816bcbd22163e8cae544b0ab4cba34872de7bf847289b01dc30bcbd64b2", func := "duodecimo/duodecimolaw10.ReaderTurn", spec := "readerTurn", unfollowed := true, recurses := true, plainKeys := false, apart := false, narrowed := true }
def ReaderTurnUptoSaid : Prop := readerTurnUptoRow.holds Try.pinned (OpenSpec.upto readerTurnSpec)

/-- 'duodecimolaw10.ReaderWorth', WHERE WHAT IT READS IS OF BULK AT MOST 1048576: true; the input reads as it did. -/
def readerWorthUptoRow : OpenClaim := { program := "ytbcjfkcpfjccdaa", sum := "2a98a816bcbd22163e8cae544b0ab4cba34872de7bf847289b01dc30bcbd64b2", func := "duodecimo/duodecimolaw10.ReaderWorth", spec := "readerWorth", unfollowed := true, recurses := true, plainKeys := false, apart := false, narrowed := true }
def ReaderWorthUptoSaid : Prop := readerWorthUptoRow.holds Try.pinned (OpenSpec.upto readerWorthSpec)

/-- 'duodecimolaw10.ReaderGives', WHERE WHAT IT READS IS OF BULK AT MOST 1048576: true; the input reads as it did. -/
def readerGivesUptoRow : OpenClaim := { program := "ytbcjfkcpfjccdaa", sum := "2a98a816bcbd22163e8cae544b0ab4cba34872de7bf847289b01dc30bcbd64b2", func := "duodecimo/duodecimolaw10.ReaderGives", spec := "readerGives", unfollowed := true, recurses := true, plainKeys := false, apart := false, narrowed := true }
def ReaderGivesUptoSaid : Prop := readerGivesUptoRow.holds Try.pinned (OpenSpec.upto readerGivesSpec)

/-- 'duodecimolaw10.ReaderFewer', WHERE WHAT IT READS IS OF BULK AT MOST 1048576: true; the input reads as it did. -/
def readerFewerUptoRow : OpenClaim := { program := "ytbcjfkcpfjccdaa", sum := "2a98a816bcbd22163e8cae544b0ab4cba34872de7bf847289b01dc30bcbd64b2", func := "duodecimo/duodecimolaw10.ReaderFewer", spec := "readerFewer", unfollowed := true, recurses := true, plainKeys := false, apart := false, narrowed := true }
def ReaderFewerUptoSaid : Prop := readerFewerUptoRow.holds Try.pinned (OpenSpec.upto readerFewerSpec)

/-- 'duodecimolaw10.ReaderMeasured', WHERE WHAT IT READS IS OF BULK AT MOST 1048576: true; the input reads as it did. -/
def readerMeasuredUptoRow : OpenClaim := { program := "ytbcjfkcpfjccdaa", sum := "2a98a816bcbd22163e8cae544b0ab4cba34872de7bf847289b01dc30bcbd64b2", func := "duodecimo/duodecimolaw10.ReaderMeasured", spec := "readerMeasured", unfollowed := true, recurses := true, plainKeys := false, apart := false, narrowed := true }
def ReaderMeasuredUptoSaid : Prop := readerMeasuredUptoRow.holds Try.pinned (OpenSpec.upto readerMeasuredSpec)

/-- 'duodecimolaw10.ReaderOrder', WHERE WHAT IT READS IS OF BULK AT MOST 1048576: true; the input reads as it did. -/
def readerOrderUptoRow : OpenClaim := { program := "ytbcjfkcpfjccdaa", sum := "2a98a816bcbd22163e8cae544b0ab4cba34872de7bf847289b01dc30bcbd64b2", func := "duodecimo/duodecimolaw10.ReaderOrder", spec := "readerOrder", unfollowed := true, recurses := true, plainKeys := false, apart := false, narrowed := true }
def ReaderOrderUptoSaid : Prop := readerOrderUptoRow.holds Try.pinned (OpenSpec.upto readerOrderSpec)

end Rows
end Go.Proofs.Ytbcjfkcpfjccdaa
