/-
  No cell of these rows narrows 'for every input' (looked for: loops, veiled, ifaces, maps, wideKeys, modest, calm, conditions, laid).
  DERIVED. THE GIVEN ROWS OF THIS SEAT. 12 by the template 'for every input the law returns true; each argument reads behind the call as it read before'; 0 by the template 'total and deterministic' (their statements: YtaikojfonleccaaTotals.lean).
  GIVEN WITH THE SEED: the statements are not yours to turn. If you find one false, say at which input.
  Laid BY PROGRAM, IN A SANDBOX (cutbox-rows.mjs): the forced cells as the released guide's own fill.sh prints them over the translation 6e4f2683c205256f… (all of the seat's roots in one cut). By AI agents, Wed Nov 11 2026. No macro, syntax, notation, axiom, sorry.
-/
import Derived.Test.YtaikojfonleccaaChecked
import GoSem.Claim
import GoSem.ClaimJoined
import GoSem.ClaimMapViews
import Derived.JoinedTies
import Derived.KernelRfl
namespace Go.Proofs.Ytaikojfonleccaa
/- THE CELL 'sum', in the pinned program and in every row, IS THE sha256 OF THE DUMP (.gsa) THAT YtaikojfonleccaaProg.lean LOADS. Nothing in Lean hashes anything: it is a label: what it is worth is what the hold of that sum in a sandbox is worth. -/
noncomputable def Try.pinned : Pinned := { name := "ytaikojfonleccaa", sum := "6e4f2683c205256fb8f202767857a6e066ce85c054d75ce3d95d3698bd67259e", checked := Try.checked }
namespace Rows
def none {H : Type} : Left H := { results := [], args := [] }

/-- 'duodecimolaw12.SaleSells': WHATEVER THE INPUT: true; the input reads as it did. -/
def saleSellsSpec : ChangeSpec := { name := "saleSells", fn := fun _ => fun
  | [d1, d2, d3] => { results := [.lit (.bool true)], args := [d1, d2, d3] }
  | _ => none }
def saleSellsRow : OpenClaim := { program := "ytaikojfonleccaa", sum := "6e4f2683c205256fb8f202767857a6e066ce85c054d75ce3d95d3698bd67259e", func := "duodecimo/duodecimolaw12.SaleSells", spec := "saleSells", unfollowed := true, recurses := true, apart := false }
def SaleSellsSaid : Prop := saleSellsRow.holds Try.pinned (OpenSpec.ofChange saleSellsSpec)

/-- ITS FALSE NEIGHBOUR: 'it returns false'. Refute it at one input. -/
def saleSellsWrong : ChangeSpec := { name := "saleSells", fn := fun _ => fun
  | [d1, d2, d3] => { results := [.lit (.bool false)], args := [d1, d2, d3] }
  | _ => none }
def SaleSellsWrongFalsely : Prop := saleSellsRow.holds Try.pinned (OpenSpec.ofChange saleSellsWrong)

/-- 'duodecimolaw12.SaleAccounts': WHATEVER THE INPUT: true; the input reads as it did. -/
def saleAccountsSpec : ChangeSpec := { name := "saleAccounts", fn := fun _ => fun
  | [d1, d2, d3] => { results := [.lit (.bool true)], args := [d1, d2, d3] }
  | _ => none }
def saleAccountsRow : OpenClaim := { program := "ytaikojfonleccaa", sum := "6e4f2683c205256fb8f202767857a6e066ce85c054d75ce3d95d3698bd67259e", func := "duodecimo/duodecimolaw12.SaleAccounts", spec := "saleAccounts", unfollowed := true, recurses := true, apart := false }
def SaleAccountsSaid : Prop := saleAccountsRow.holds Try.pinned (OpenSpec.ofChange saleAccountsSpec)

/-- ITS FALSE NEIGHBOUR: 'it returns false'. Refute it at one input. -/
def saleAccountsWrong : ChangeSpec := { name := "saleAccounts", fn := fun _ => fun
  | [d1, d2, d3] => { results := [.lit (.bool false)], args := [d1, d2, d3] }
  | _ => none }
def SaleAccountsWrongFalsely : Prop := saleAccountsRow.holds Try.pinned (OpenSpec.ofChange saleAccountsWrong)

/-- 'duodecimolaw12.SaleRings': WHATEVER THE INPUT: true; the input reads as it did. -/
def saleRingsSpec : ChangeSpec := { name := "saleRings", fn := fun _ => fun
  | [d1, d2] => { results := [.lit (.bool true)], args := [d1, d2] }
  | _ => none }
def saleRingsRow : OpenClaim := { program := "ytaikojfonleccaa", sum := "6e4f2683c205256fb8f202767857a6e066ce85c054d75ce3d95d3698bd67259e", func := "duodecimo/duodecimolaw12.SaleRings", spec := "saleRings", unfollowed := true, recurses := true, apart := false }
def SaleRingsSaid : Prop := saleRingsRow.holds Try.pinned (OpenSpec.ofChange saleRingsSpec)

/-- ITS FALSE NEIGHBOUR: 'it returns false'. Refute it at one input. -/
def saleRingsWrong : ChangeSpec := { name := "saleRings", fn := fun _ => fun
  | [d1, d2] => { results := [.lit (.bool false)], args := [d1, d2] }
  | _ => none }
def SaleRingsWrongFalsely : Prop := saleRingsRow.holds Try.pinned (OpenSpec.ofChange saleRingsWrong)

/-- 'duodecimolaw12.SaleKnown': WHATEVER THE INPUT: true; the input reads as it did. -/
def saleKnownSpec : ChangeSpec := { name := "saleKnown", fn := fun _ => fun
  | [] => { results := [.lit (.bool true)], args := [] }
  | _ => none }
def saleKnownRow : OpenClaim := { program := "ytaikojfonleccaa", sum := "6e4f2683c205256fb8f202767857a6e066ce85c054d75ce3d95d3698bd67259e", func := "duodecimo/duodecimolaw12.SaleKnown", spec := "saleKnown", unfollowed := true, recurses := true, apart := false }
def SaleKnownSaid : Prop := saleKnownRow.holds Try.pinned (OpenSpec.ofChange saleKnownSpec)

/-- ITS FALSE NEIGHBOUR: 'it returns false'. Refute it at one input. -/
def saleKnownWrong : ChangeSpec := { name := "saleKnown", fn := fun _ => fun
  | [] => { results := [.lit (.bool false)], args := [] }
  | _ => none }
def SaleKnownWrongFalsely : Prop := saleKnownRow.holds Try.pinned (OpenSpec.ofChange saleKnownWrong)

/-- 'duodecimolaw12.SaleWithin': WHATEVER THE INPUT: true; the input reads as it did. -/
def saleWithinSpec : ChangeSpec := { name := "saleWithin", fn := fun _ => fun
  | [d1, d2] => { results := [.lit (.bool true)], args := [d1, d2] }
  | _ => none }
def saleWithinRow : OpenClaim := { program := "ytaikojfonleccaa", sum := "6e4f2683c205256fb8f202767857a6e066ce85c054d75ce3d95d3698bd67259e", func := "duodecimo/duodecimolaw12.SaleWithin", spec := "saleWithin", unfollowed := true, recurses := true, apart := false }
def SaleWithinSaid : Prop := saleWithinRow.holds Try.pinned (OpenSpec.ofChange saleWithinSpec)

/-- ITS FALSE NEIGHBOUR: 'it returns false'. Refute it at one input. -/
def saleWithinWrong : ChangeSpec := { name := "saleWithin", fn := fun _ => fun
  | [d1, d2] => { results := [.lit (.bool false)], args := [d1, d2] }
  | _ => none }
def SaleWithinWrongFalsely : Prop := saleWithinRow.holds Try.pinned (OpenSpec.ofChange saleWithinWrong)

/-- 'duodecimolaw12.SaleSilent': WHATEVER THE INPUT: true; the input reads as it did. -/
def saleSilentSpec : ChangeSpec := { name := "saleSilent", fn := fun _ => fun
  | [d1, d2] => { results := [.lit (.bool true)], args := [d1, d2] }
  | _ => none }
def saleSilentRow : OpenClaim := { program := "ytaikojfonleccaa", sum := "6e4f2683c205256fb8f202767857a6e066ce85c054d75ce3d95d3698bd67259e", func := "duodecimo/duodecimolaw12.SaleSilent", spec := "saleSilent", unfollowed := true, recurses := true, apart := false }
def SaleSilentSaid : Prop := saleSilentRow.holds Try.pinned (OpenSpec.ofChange saleSilentSpec)

/-- ITS FALSE NEIGHBOUR: 'it returns false'. Refute it at one input. -/
def saleSilentWrong : ChangeSpec := { name := "saleSilent", fn := fun _ => fun
  | [d1, d2] => { results := [.lit (.bool false)], args := [d1, d2] }
  | _ => none }
def SaleSilentWrongFalsely : Prop := saleSilentRow.holds Try.pinned (OpenSpec.ofChange saleSilentWrong)

/-- 'duodecimolaw12.SaleAccounted': WHATEVER THE INPUT: true; the input reads as it did. -/
def saleAccountedSpec : ChangeSpec := { name := "saleAccounted", fn := fun _ => fun
  | [d1, d2, d3] => { results := [.lit (.bool true)], args := [d1, d2, d3] }
  | _ => none }
def saleAccountedRow : OpenClaim := { program := "ytaikojfonleccaa", sum := "6e4f2683c205256fb8f202767857a6e066ce85c054d75ce3d95d3698bd67259e", func := "duodecimo/duodecimolaw12.SaleAccounted", spec := "saleAccounted", unfollowed := true, recurses := true, apart := false }
def SaleAccountedSaid : Prop := saleAccountedRow.holds Try.pinned (OpenSpec.ofChange saleAccountedSpec)

/-- ITS FALSE NEIGHBOUR: 'it returns false'. Refute it at one input. -/
def saleAccountedWrong : ChangeSpec := { name := "saleAccounted", fn := fun _ => fun
  | [d1, d2, d3] => { results := [.lit (.bool false)], args := [d1, d2, d3] }
  | _ => none }
def SaleAccountedWrongFalsely : Prop := saleAccountedRow.holds Try.pinned (OpenSpec.ofChange saleAccountedWrong)

/-- 'duodecimolaw12.SaleShares': WHATEVER THE INPUT: true; the input reads as it did. -/
def saleSharesSpec : ChangeSpec := { name := "saleShares", fn := fun _ => fun
  | [d1, d2] => { results := [.lit (.bool true)], args := [d1, d2] }
  | _ => none }
def saleSharesRow : OpenClaim := { program := "ytaikojfonleccaa", sum := "6e4f2683c205256fb8f202767857a6e066ce85c054d75ce3d95d3698bd67259e", func := "duodecimo/duodecimolaw12.SaleShares", spec := "saleShares", unfollowed := true, recurses := true, apart := false }
def SaleSharesSaid : Prop := saleSharesRow.holds Try.pinned (OpenSpec.ofChange saleSharesSpec)

/-- ITS FALSE NEIGHBOUR: 'it returns false'. Refute it at one input. -/
def saleSharesWrong : ChangeSpec := { name := "saleShares", fn := fun _ => fun
  | [d1, d2] => { results := [.lit (.bool false)], args := [d1, d2] }
  | _ => none }
def SaleSharesWrongFalsely : Prop := saleSharesRow.holds Try.pinned (OpenSpec.ofChange saleSharesWrong)

/-- 'duodecimolaw12.SaleTrue': WHATEVER THE INPUT: true; the input reads as it did. -/
def saleTrueSpec : ChangeSpec := { name := "saleTrue", fn := fun _ => fun
  | [d1, d2] => { results := [.lit (.bool true)], args := [d1, d2] }
  | _ => none }
def saleTrueRow : OpenClaim := { program := "ytaikojfonleccaa", sum := "6e4f2683c205256fb8f202767857a6e066ce85c054d75ce3d95d3698bd67259e", func := "duodecimo/duodecimolaw12.SaleTrue", spec := "saleTrue", unfollowed := true, recurses := true, apart := false }
def SaleTrueSaid : Prop := saleTrueRow.holds Try.pinned (OpenSpec.ofChange saleTrueSpec)

/-- ITS FALSE NEIGHBOUR: 'it returns false'. Refute it at one input. -/
def saleTrueWrong : ChangeSpec := { name := "saleTrue", fn := fun _ => fun
  | [d1, d2] => { results := [.lit (.bool false)], args := [d1, d2] }
  | _ => none }
def SaleTrueWrongFalsely : Prop := saleTrueRow.holds Try.pinned (OpenSpec.ofChange saleTrueWrong)

/-- 'duodecimolaw12.SaleFewest': WHATEVER THE INPUT: true; the input reads as it did. -/
def saleFewestSpec : ChangeSpec := { name := "saleFewest", fn := fun _ => fun
  | [d1, d2, d3] => { results := [.lit (.bool true)], args := [d1, d2, d3] }
  | _ => none }
def saleFewestRow : OpenClaim := { program := "ytaikojfonleccaa", sum := "6e4f2683c205256fb8f202767857a6e066ce85c054d75ce3d95d3698bd67259e", func := "duodecimo/duodecimolaw12.SaleFewest", spec := "saleFewest", unfollowed := true, recurses := true, apart := false }
def SaleFewestSaid : Prop := saleFewestRow.holds Try.pinned (OpenSpec.ofChange saleFewestSpec)

/-- ITS FALSE NEIGHBOUR: 'it returns false'. Refute it at one input. -/
def saleFewestWrong : ChangeSpec := { name := "saleFewest", fn := fun _ => fun
  | [d1, d2, d3] => { results := [.lit (.bool false)], args := [d1, d2, d3] }
  | _ => none }
def SaleFewestWrongFalsely : Prop := saleFewestRow.holds Try.pinned (OpenSpec.ofChange saleFewestWrong)

/-- 'duodecimolaw12.SaleMore': WHATEVER THE INPUT: true; the input reads as it did. -/
def saleMoreSpec : ChangeSpec := { name := "saleMore", fn := fun _ => fun
  | [d1, d2, d3] => { results := [.lit (.bool true)], args := [d1, d2, d3] }
  | _ => none }
def saleMoreRow : OpenClaim := { program := "ytaikojfonleccaa", sum := "6e4f2683c205256fb8f202767857a6e066ce85c054d75ce3d95d3698bd67259e", func := "duodecimo/duodecimolaw12.SaleMore", spec := "saleMore", unfollowed := true, recurses := true, apart := false }
def SaleMoreSaid : Prop := saleMoreRow.holds Try.pinned (OpenSpec.ofChange saleMoreSpec)

/-- ITS FALSE NEIGHBOUR: 'it returns false'. Refute it at one input. -/
def saleMoreWrong : ChangeSpec := { name := "saleMore", fn := fun _ => fun
  | [d1, d2, d3] => { results := [.lit (.bool false)], args := [d1, d2, d3] }
  | _ => none }
def SaleMoreWrongFalsely : Prop := saleMoreRow.holds Try.pinned (OpenSpec.ofChange saleMoreWrong)

/-- 'duodecimolaw12.SaleLess': WHATEVER THE INPUT: true; the input reads as it did. -/
def saleLessSpec : ChangeSpec := { name := "saleLess", fn := fun _ => fun
  | [d1, d2, d3] => { results := [.lit (.bool true)], args := [d1, d2, d3] }
  | _ => none }
def saleLessRow : OpenClaim := { program := "ytaikojfonleccaa", sum := "6e4f2683c205256fb8f202767857a6e066ce85c054d75ce3d95d3698bd67259e", func := "duodecimo/duodecimolaw12.SaleLess", spec := "saleLess", unfollowed := true, recurses := true, apart := false }
def SaleLessSaid : Prop := saleLessRow.holds Try.pinned (OpenSpec.ofChange saleLessSpec)

/-- ITS FALSE NEIGHBOUR: 'it returns false'. Refute it at one input. -/
def saleLessWrong : ChangeSpec := { name := "saleLess", fn := fun _ => fun
  | [d1, d2, d3] => { results := [.lit (.bool false)], args := [d1, d2, d3] }
  | _ => none }
def SaleLessWrongFalsely : Prop := saleLessRow.holds Try.pinned (OpenSpec.ofChange saleLessWrong)

/- THE SECOND FORM. 'bulk': how many values and letters a reading holds, each counted each time it is reached (what is shared counts as often as it is met; a slice's spare places count too). A statement '..UptoSaid' is the law's where the arguments, and the package variables that the reading takes, are together of bulk at most 1048576: NARROWER than '..Said'. Prove '..Said' where nothing that the law and all that it calls make is longer than what came in: it says more and counts as full. Else prove '..UptoSaid'. A law counts once. -/
mutual
def uptoBulk {H : Type} : DataW H → Nat
  | .lit (.string bytes) => bytes.length + 1
  | .lit _ => 1
  | .nil => 1
  | .ptr d => uptoBulk d + 1
  | .slice elems spare => uptoBulkAll elems + uptoBulkAll spare + 1
  | .agg parts => uptoBulkAll parts + 1
  | .iface _ d => uptoBulk d + 1
  | .map entries => uptoBulkEntries entries + 1
  | .held _ => 1
def uptoBulkAll {H : Type} : List (DataW H) → Nat
  | [] => 0
  | d :: r => uptoBulk d + uptoBulkAll r
def uptoBulkEntries {H : Type} : List (Lit × DataW H) → Nat
  | [] => 0
  | x :: r => uptoBulkEntry x + uptoBulkEntries r
def uptoBulkEntry {H : Type} : Lit × DataW H → Nat
  | (.string bytes, d) => bytes.length + uptoBulk d + 1
  | (_, d) => uptoBulk d + 1
 end
def uptoSmall : (H : Type) → List (DataW H) → Bool := fun _ ds => decide (uptoBulkAll ds ≤ 1048576)
def OpenSpec.upto (s : _root_.Go.ChangeSpec) : _root_.Go.OpenSpec := { _root_.Go.OpenSpec.ofChange s with cond := some uptoSmall }

/-- 'duodecimolaw12.SaleSells', WHERE WHAT IT READS IS OF BULK AT MOST 1048576: true; the input reads as it did. -/
def saleSellsUptoRow : OpenClaim := { program := "ytaikojfonleccaa", sum := "6e4f2683c205256fb8f202767857a6e066ce85c054d75ce3d95d3698bd67259e", func := "duodecimo/duodecimolaw12.SaleSells", spec := "saleSells", unfollowed := true, recurses := true, apart := false, narrowed := true }
def SaleSellsUptoSaid : Prop := saleSellsUptoRow.holds Try.pinned (OpenSpec.upto saleSellsSpec)

/-- 'duodecimolaw12.SaleAccounts', WHERE WHAT IT READS IS OF BULK AT MOST 1048576: true; the input reads as it did. -/
def saleAccountsUptoRow : OpenClaim := { program := "ytaikojfonleccaa", sum := "6e4f2683c205256fb8f202767857a6e066ce85c054d75ce3d95d3698bd67259e", func := "duodecimo/duodecimolaw12.SaleAccounts", spec := "saleAccounts", unfollowed := true, recurses := true, apart := false, narrowed := true }
def SaleAccountsUptoSaid : Prop := saleAccountsUptoRow.holds Try.pinned (OpenSpec.upto saleAccountsSpec)

/-- 'duodecimolaw12.SaleRings', WHERE WHAT IT READS IS OF BULK AT MOST 1048576: true; the input reads as it did. -/
def saleRingsUptoRow : OpenClaim := { program := "ytaikojfonleccaa", sum := "6e4f2683c205256fb8f202767857a6e066ce85c054d75ce3d95d3698bd67259e", func := "duodecimo/duodecimolaw12.SaleRings", spec := "saleRings", unfollowed := true, recurses := true, apart := false, narrowed := true }
def SaleRingsUptoSaid : Prop := saleRingsUptoRow.holds Try.pinned (OpenSpec.upto saleRingsSpec)

/-- 'duodecimolaw12.SaleKnown', WHERE WHAT IT READS IS OF BULK AT MOST 1048576: true; the input reads as it did. -/
def saleKnownUptoRow : OpenClaim := { program := "ytaikojfonleccaa", sum := "6e4f2683c205256fb8f202767857a6e066ce85c054d75ce3d95d3698bd67259e", func := "duodecimo/duodecimolaw12.SaleKnown", spec := "saleKnown", unfollowed := true, recurses := true, apart := false, narrowed := true }
def SaleKnownUptoSaid : Prop := saleKnownUptoRow.holds Try.pinned (OpenSpec.upto saleKnownSpec)

/-- 'duodecimolaw12.SaleWithin', WHERE WHAT IT READS IS OF BULK AT MOST 1048576: true; the input reads as it did. -/
def saleWithinUptoRow : OpenClaim := { program := "ytaikojfonleccaa", sum := "6e4f2683c205256fb8f202767857a6e066ce85c054d75ce3d95d3698bd67259e", func := "duodecimo/duodecimolaw12.SaleWithin", spec := "saleWithin", unfollowed := true, recurses := true, apart := false, narrowed := true }
def SaleWithinUptoSaid : Prop := saleWithinUptoRow.holds Try.pinned (OpenSpec.upto saleWithinSpec)

/-- 'duodecimolaw12.SaleSilent', WHERE WHAT IT READS IS OF BULK AT MOST 1048576: true; the input reads as it did. -/
def saleSilentUptoRow : OpenClaim := { program := "ytaikojfonleccaa", sum := "6e4f2683c205256fb8f202767857a6e066ce85c054d75ce3d95d3698bd67259e", func := "duodecimo/duodecimolaw12.SaleSilent", spec := "saleSilent", unfollowed := true, recurses := true, apart := false, narrowed := true }
def SaleSilentUptoSaid : Prop := saleSilentUptoRow.holds Try.pinned (OpenSpec.upto saleSilentSpec)

/-- 'duodecimolaw12.SaleAccounted', WHERE WHAT IT READS IS OF BULK AT MOST 1048576: true; the input reads as it did. -/
def saleAccountedUptoRow : OpenClaim := { program := "ytaikojfonleccaa", sum := "6e4f2683c205256fb8f202767857a6e066ce85c054d75ce3d95d3698bd67259e", func := "duodecimo/duodecimolaw12.SaleAccounted", spec := "saleAccounted", unfollowed := true, recurses := true, apart := false, narrowed := true }
def SaleAccountedUptoSaid : Prop := saleAccountedUptoRow.holds Try.pinned (OpenSpec.upto saleAccountedSpec)

/-- 'duodecimolaw12.SaleShares', WHERE WHAT IT READS IS OF BULK AT MOST 1048576: true; the input reads as it did. -/
def saleSharesUptoRow : OpenClaim := { program := "ytaikojfonleccaa", sum := "6e4f2683c205256fb8f202767857a6e066ce85c054d75ce3d95d3698bd67259e", func := "duodecimo/duodecimolaw12.SaleShares", spec := "saleShares", unfollowed := true, recurses := true, apart := false, narrowed := true }
def SaleSharesUptoSaid : Prop := saleSharesUptoRow.holds Try.pinned (OpenSpec.upto saleSharesSpec)

/-- 'duodecimolaw12.SaleTrue', WHERE WHAT IT READS IS OF BULK AT MOST 1048576: true; the input reads as it did. -/
def saleTrueUptoRow : OpenClaim := { program := "ytaikojfonleccaa", sum := "6e4f2683c205256fb8f202767857a6e066ce85c054d75ce3d95d3698bd67259e", func := "duodecimo/duodecimolaw12.SaleTrue", spec := "saleTrue", unfollowed := true, recurses := true, apart := false, narrowed := true }
def SaleTrueUptoSaid : Prop := saleTrueUptoRow.holds Try.pinned (OpenSpec.upto saleTrueSpec)

/-- 'duodecimolaw12.SaleFewest', WHERE WHAT IT READS IS OF BULK AT MOST 1048576: true; the input reads as it did. -/
def saleFewestUptoRow : OpenClaim := { program := "ytaikojfonleccaa", sum := "6e4f2683c205256fb8f202767857a6e066ce85c054d75ce3d95d3698bd67259e", func := "duodecimo/duodecimolaw12.SaleFewest", spec := "saleFewest", unfollowed := true, recurses := true, apart := false, narrowed := true }
def SaleFewestUptoSaid : Prop := saleFewestUptoRow.holds Try.pinned (OpenSpec.upto saleFewestSpec)

/-- 'duodecimolaw12.SaleMore', WHERE WHAT IT READS IS OF BULK AT MOST 1048576: true; the input reads as it did. -/
def saleMoreUptoRow : OpenClaim := { program := "ytaikojfonleccaa", sum := "6e4f2683c205256fb8f202767857a6e066ce85c054d75ce3d95d3698bd67259e", func := "duodecimo/duodecimolaw12.SaleMore", spec := "saleMore", unfollowed := true, recurses := true, apart := false, narrowed := true }
def SaleMoreUptoSaid : Prop := saleMoreUptoRow.holds Try.pinned (OpenSpec.upto saleMoreSpec)

/-- 'duodecimolaw12.SaleLess', WHERE WHAT IT READS IS OF BULK AT MOST 1048576: true; the input reads as it did. -/
def saleLessUptoRow : OpenClaim := { program := "ytaikojfonleccaa", sum := "6e4f2683c205256fb8f202767857a6e066ce85c054d75ce3d95d3698bd67259e", func := "duodecimo/duodecimolaw12.SaleLess", spec := "saleLess", unfollowed := true, recurses := true, apart := false, narrowed := true }
def SaleLessUptoSaid : Prop := saleLessUptoRow.holds Try.pinned (OpenSpec.upto saleLessSpec)

end Rows
end Go.Proofs.Ytaikojfonleccaa
