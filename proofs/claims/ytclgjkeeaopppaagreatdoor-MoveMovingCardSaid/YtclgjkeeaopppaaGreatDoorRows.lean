/-
  NARROWER THAN 'FOR EVERY INPUT', by the rows' own cells (each row's printed sentence says how): MoveHomes: laid · MoveSplits: laid · MoveLives: laid · MoveLegs: laid · MovePlans: laid · MoveMoving: laid.
  DERIVED. THE GIVEN ROWS OF THIS SEAT. 6 by the template 'for every input the law returns true; each argument reads behind the call as it read before'; 0 by the template 'total and deterministic' (their statements: YtclgjkeeaopppaaGreatDoorTotals.lean).
  GIVEN WITH THE SEED: the statements are not yours to turn. If you find one false, say at which input.
  Laid BY PROGRAM, IN A SANDBOX (cutbox-rows.mjs): the forced cells as the released guide's own fill.sh prints them over the translation 2623622686708c1b… (all of the seat's roots in one cut). By AI agents, Wed Nov 11 2026. No macro, syntax, notation, axiom, sorry.
-/
import Derived.Test.YtclgjkeeaopppaaGreatDoorChecked
import GoSem.Claim
import GoSem.ClaimJoined
import GoSem.ClaimMapViews
import Derived.JoinedTies
import Derived.KernelRfl
namespace Go.Proofs.YtclgjkeeaopppaaGreatDoor
/- THE CELL 'sum', in the pinned program and in every row, IS THE sha256 OF THE DUMP (.gsa) THAT YtclgjkeeaopppaaGreatDoorProg.lean LOADS. Nothing in Lean hashes anything: it is a label: what it is worth is what the hold of that sum in a sandbox is worth. -/
noncomputable def Tryz.pinned : Pinned := { name := "ytclgjkeeaopppaagreatdoor", sum := "2623622686708c1b509464e2b6756ff26d0233a2ec930d22e292ac579b2e906d", checked := Tryz.checked }
namespace Rows
def none {H : Type} : Left H := { results := [], args := [] }

/- WHAT THE LISTED PACKAGE-LEVEL VARIABLES READ AS WHEN THE CALL BEGINS. Each datum BY PROGRAM (the guide's laid-datum.mjs) off the statement by which the dump's own 'gosem.cut.vars' lays the variable. In a bare row this is a premise. The card (YtclgjkeeaopppaaGreatDoorCards.lean) ties it to the program's text. -/
def laid_worldmint_lexer_kinds {H : Type} : DataW H := .agg [.lit (.int .u8 0), .lit (.int .u8 0), .lit (.int .u8 0), .lit (.int .u8 0), .lit (.int .u8 0), .lit (.int .u8 0), .lit (.int .u8 0), .lit (.int .u8 0), .lit (.int .u8 0), .lit (.int .u8 1), .lit (.int .u8 1), .lit (.int .u8 0), .lit (.int .u8 0), .lit (.int .u8 0), .lit (.int .u8 0), .lit (.int .u8 0), .lit (.int .u8 0), .lit (.int .u8 0), .lit (.int .u8 0), .lit (.int .u8 0), .lit (.int .u8 0), .lit (.int .u8 0), .lit (.int .u8 0), .lit (.int .u8 0), .lit (.int .u8 0), .lit (.int .u8 0), .lit (.int .u8 0), .lit (.int .u8 0), .lit (.int .u8 0), .lit (.int .u8 0), .lit (.int .u8 0), .lit (.int .u8 0), .lit (.int .u8 1), .lit (.int .u8 0), .lit (.int .u8 0), .lit (.int .u8 2), .lit (.int .u8 0), .lit (.int .u8 0), .lit (.int .u8 0), .lit (.int .u8 0), .lit (.int .u8 7), .lit (.int .u8 7), .lit (.int .u8 0), .lit (.int .u8 7), .lit (.int .u8 7), .lit (.int .u8 6), .lit (.int .u8 7), .lit (.int .u8 0), .lit (.int .u8 4), .lit (.int .u8 4), .lit (.int .u8 4), .lit (.int .u8 4), .lit (.int .u8 4), .lit (.int .u8 4), .lit (.int .u8 4), .lit (.int .u8 4), .lit (.int .u8 4), .lit (.int .u8 4), .lit (.int .u8 7), .lit (.int .u8 7), .lit (.int .u8 7), .lit (.int .u8 7), .lit (.int .u8 7), .lit (.int .u8 0), .lit (.int .u8 0), .lit (.int .u8 0), .lit (.int .u8 0), .lit (.int .u8 0), .lit (.int .u8 0), .lit (.int .u8 0), .lit (.int .u8 0), .lit (.int .u8 0), .lit (.int .u8 0), .lit (.int .u8 0), .lit (.int .u8 0), .lit (.int .u8 0), .lit (.int .u8 0), .lit (.int .u8 0), .lit (.int .u8 0), .lit (.int .u8 0), .lit (.int .u8 0), .lit (.int .u8 0), .lit (.int .u8 0), .lit (.int .u8 0), .lit (.int .u8 0), .lit (.int .u8 0), .lit (.int .u8 0), .lit (.int .u8 0), .lit (.int .u8 0), .lit (.int .u8 0), .lit (.int .u8 0), .lit (.int .u8 0), .lit (.int .u8 0), .lit (.int .u8 0), .lit (.int .u8 0), .lit (.int .u8 5), .lit (.int .u8 0), .lit (.int .u8 3), .lit (.int .u8 3), .lit (.int .u8 3), .lit (.int .u8 3), .lit (.int .u8 3), .lit (.int .u8 3), .lit (.int .u8 3), .lit (.int .u8 3), .lit (.int .u8 3), .lit (.int .u8 3), .lit (.int .u8 3), .lit (.int .u8 3), .lit (.int .u8 3), .lit (.int .u8 3), .lit (.int .u8 3), .lit (.int .u8 3), .lit (.int .u8 3), .lit (.int .u8 3), .lit (.int .u8 3), .lit (.int .u8 3), .lit (.int .u8 3), .lit (.int .u8 3), .lit (.int .u8 3), .lit (.int .u8 3), .lit (.int .u8 3), .lit (.int .u8 3), .lit (.int .u8 7), .lit (.int .u8 0), .lit (.int .u8 7), .lit (.int .u8 0), .lit (.int .u8 0)]

/-- 'worldmintlaw36.MoveHomes': WHATEVER THE INPUT: true; the input reads as it did. -/
def moveHomesSpec : ChangeSpec := { name := "moveHomes", fn := fun _ => fun
  | [d1, d2, d3, d4, d5] => { results := [.lit (.bool true)], args := [d1, d2, d3, d4, d5] }
  | _ => none }
def moveHomesRow : OpenClaim := { program := "ytclgjkeeaopppaagreatdoor", sum := "2623622686708c1b509464e2b6756ff26d0233a2ec930d22e292ac579b2e906d", func := "worldmint/worldmintlaw36.MoveHomes", spec := "moveHomes", inPlace := ["internal/bytealg.IndexByteString"], unfollowed := true, recurses := true, named := ["worldmint/lexer.kinds", "math/bits.divideError", "math/bits.overflowError"], plainKeys := false, apart := false, laid := [("worldmint/lexer.kinds", laid_worldmint_lexer_kinds)] }
def MoveHomesSaid : Prop := moveHomesRow.holds Tryz.pinned (OpenSpec.ofChange moveHomesSpec)

/-- ITS FALSE NEIGHBOUR: 'it returns false'. Refute it at one input. -/
def moveHomesWrong : ChangeSpec := { name := "moveHomes", fn := fun _ => fun
  | [d1, d2, d3, d4, d5] => { results := [.lit (.bool false)], args := [d1, d2, d3, d4, d5] }
  | _ => none }
def MoveHomesWrongFalsely : Prop := moveHomesRow.holds Tryz.pinned (OpenSpec.ofChange moveHomesWrong)

/-- 'worldmintlaw36.MoveSplits': WHATEVER THE INPUT: true; the input reads as it did. -/
def moveSplitsSpec : ChangeSpec := { name := "moveSplits", fn := fun _ => fun
  | [d1, d2, d3, d4, d5, d6, d7] => { results := [.lit (.bool true)], args := [d1, d2, d3, d4, d5, d6, d7] }
  | _ => none }
def moveSplitsRow : OpenClaim := { program := "ytclgjkeeaopppaagreatdoor", sum := "2623622686708c1b509464e2b6756ff26d0233a2ec930d22e292ac579b2e906d", func := "worldmint/worldmintlaw36.MoveSplits", spec := "moveSplits", inPlace := ["internal/bytealg.IndexByteString"], unfollowed := true, recurses := true, named := ["worldmint/lexer.kinds", "math/bits.divideError", "math/bits.overflowError"], plainKeys := false, apart := false, laid := [("worldmint/lexer.kinds", laid_worldmint_lexer_kinds)] }
def MoveSplitsSaid : Prop := moveSplitsRow.holds Tryz.pinned (OpenSpec.ofChange moveSplitsSpec)

/-- ITS FALSE NEIGHBOUR: 'it returns false'. Refute it at one input. -/
def moveSplitsWrong : ChangeSpec := { name := "moveSplits", fn := fun _ => fun
  | [d1, d2, d3, d4, d5, d6, d7] => { results := [.lit (.bool false)], args := [d1, d2, d3, d4, d5, d6, d7] }
  | _ => none }
def MoveSplitsWrongFalsely : Prop := moveSplitsRow.holds Tryz.pinned (OpenSpec.ofChange moveSplitsWrong)

/-- 'worldmintlaw36.MoveLives': WHATEVER THE INPUT: true; the input reads as it did. -/
def moveLivesSpec : ChangeSpec := { name := "moveLives", fn := fun _ => fun
  | [d1, d2, d3, d4, d5, d6] => { results := [.lit (.bool true)], args := [d1, d2, d3, d4, d5, d6] }
  | _ => none }
def moveLivesRow : OpenClaim := { program := "ytclgjkeeaopppaagreatdoor", sum := "2623622686708c1b509464e2b6756ff26d0233a2ec930d22e292ac579b2e906d", func := "worldmint/worldmintlaw36.MoveLives", spec := "moveLives", inPlace := ["internal/bytealg.IndexByteString"], unfollowed := true, recurses := true, named := ["worldmint/lexer.kinds", "math/bits.divideError", "math/bits.overflowError"], plainKeys := false, apart := false, laid := [("worldmint/lexer.kinds", laid_worldmint_lexer_kinds)] }
def MoveLivesSaid : Prop := moveLivesRow.holds Tryz.pinned (OpenSpec.ofChange moveLivesSpec)

/-- ITS FALSE NEIGHBOUR: 'it returns false'. Refute it at one input. -/
def moveLivesWrong : ChangeSpec := { name := "moveLives", fn := fun _ => fun
  | [d1, d2, d3, d4, d5, d6] => { results := [.lit (.bool false)], args := [d1, d2, d3, d4, d5, d6] }
  | _ => none }
def MoveLivesWrongFalsely : Prop := moveLivesRow.holds Tryz.pinned (OpenSpec.ofChange moveLivesWrong)

/-- 'worldmintlaw36.MoveLegs': WHATEVER THE INPUT: true; the input reads as it did. -/
def moveLegsSpec : ChangeSpec := { name := "moveLegs", fn := fun _ => fun
  | [d1, d2, d3, d4] => { results := [.lit (.bool true)], args := [d1, d2, d3, d4] }
  | _ => none }
def moveLegsRow : OpenClaim := { program := "ytclgjkeeaopppaagreatdoor", sum := "2623622686708c1b509464e2b6756ff26d0233a2ec930d22e292ac579b2e906d", func := "worldmint/worldmintlaw36.MoveLegs", spec := "moveLegs", inPlace := ["internal/bytealg.IndexByteString"], unfollowed := true, recurses := true, named := ["worldmint/lexer.kinds", "math/bits.divideError", "math/bits.overflowError"], plainKeys := false, apart := false, laid := [("worldmint/lexer.kinds", laid_worldmint_lexer_kinds)] }
def MoveLegsSaid : Prop := moveLegsRow.holds Tryz.pinned (OpenSpec.ofChange moveLegsSpec)

/-- ITS FALSE NEIGHBOUR: 'it returns false'. Refute it at one input. -/
def moveLegsWrong : ChangeSpec := { name := "moveLegs", fn := fun _ => fun
  | [d1, d2, d3, d4] => { results := [.lit (.bool false)], args := [d1, d2, d3, d4] }
  | _ => none }
def MoveLegsWrongFalsely : Prop := moveLegsRow.holds Tryz.pinned (OpenSpec.ofChange moveLegsWrong)

/-- 'worldmintlaw36.MovePlans': WHATEVER THE INPUT: true; the input reads as it did. -/
def movePlansSpec : ChangeSpec := { name := "movePlans", fn := fun _ => fun
  | [d1, d2, d3, d4, d5, d6] => { results := [.lit (.bool true)], args := [d1, d2, d3, d4, d5, d6] }
  | _ => none }
def movePlansRow : OpenClaim := { program := "ytclgjkeeaopppaagreatdoor", sum := "2623622686708c1b509464e2b6756ff26d0233a2ec930d22e292ac579b2e906d", func := "worldmint/worldmintlaw36.MovePlans", spec := "movePlans", inPlace := ["internal/bytealg.IndexByteString"], unfollowed := true, recurses := true, named := ["worldmint/lexer.kinds", "math/bits.divideError", "math/bits.overflowError"], plainKeys := false, apart := false, laid := [("worldmint/lexer.kinds", laid_worldmint_lexer_kinds)] }
def MovePlansSaid : Prop := movePlansRow.holds Tryz.pinned (OpenSpec.ofChange movePlansSpec)

/-- ITS FALSE NEIGHBOUR: 'it returns false'. Refute it at one input. -/
def movePlansWrong : ChangeSpec := { name := "movePlans", fn := fun _ => fun
  | [d1, d2, d3, d4, d5, d6] => { results := [.lit (.bool false)], args := [d1, d2, d3, d4, d5, d6] }
  | _ => none }
def MovePlansWrongFalsely : Prop := movePlansRow.holds Tryz.pinned (OpenSpec.ofChange movePlansWrong)

/-- 'worldmintlaw36.MoveMoving': WHATEVER THE INPUT: true; the input reads as it did. -/
def moveMovingSpec : ChangeSpec := { name := "moveMoving", fn := fun _ => fun
  | [d1, d2, d3, d4, d5, d6] => { results := [.lit (.bool true)], args := [d1, d2, d3, d4, d5, d6] }
  | _ => none }
def moveMovingRow : OpenClaim := { program := "ytclgjkeeaopppaagreatdoor", sum := "2623622686708c1b509464e2b6756ff26d0233a2ec930d22e292ac579b2e906d", func := "worldmint/worldmintlaw36.MoveMoving", spec := "moveMoving", inPlace := ["internal/bytealg.IndexByteString"], unfollowed := true, recurses := true, named := ["worldmint/lexer.kinds", "math/bits.divideError", "math/bits.overflowError"], plainKeys := false, apart := false, laid := [("worldmint/lexer.kinds", laid_worldmint_lexer_kinds)] }
def MoveMovingSaid : Prop := moveMovingRow.holds Tryz.pinned (OpenSpec.ofChange moveMovingSpec)

/-- ITS FALSE NEIGHBOUR: 'it returns false'. Refute it at one input. -/
def moveMovingWrong : ChangeSpec := { name := "moveMoving", fn := fun _ => fun
  | [d1, d2, d3, d4, d5, d6] => { results := [.lit (.bool false)], args := [d1, d2, d3, d4, d5, d6] }
  | _ => none }
def MoveMovingWrongFalsely : Prop := moveMovingRow.holds Tryz.pinned (OpenSpec.ofChange moveMovingWrong)

/- THE SECOND FORM. 'bulk': how many values and letters a reading holds, each counted each time it is reached (what is shared counts as often as it is met; a slice's spare places count too). A statement '..UptoSaid' is the law's where the arguments, and the package variables that the reading takes, are together of bulk at most 1048576: NARROWER than '..Said'. Prove '..Said' where nothing that the law and all that it calls make is longer than what came in: it says more and counts as full. Else prove '..UptoSaid'. A law counts once. -/
mutual
def uptoBulk {H : Type} : DataW H → Nat
  | .lit (.string bytes) => bytes.length + 1
  | .lit _ => 1
  | .nil => 1
  | .ptr d => uptoBulk d + 1
  | .slice elems spare => uptoBulkAll elems + uptoBulkAll spare + 1
  | .agg parts => uptoBulkAll parts + 1
  | .iface _ d => uptoBulk d + 1
  | .map entries => uptoBulkEntries entries + 1
  | .held _ => 1
def uptoBulkAll {H : Type} : List (DataW H) → Nat
  | [] => 0
  | d :: r => uptoBulk d + uptoBulkAll r
def uptoBulkEntries {H : Type} : List (Lit × DataW H) → Nat
  | [] => 0
  | x :: r => uptoBulkEntry x + uptoBulkEntries r
def uptoBulkEntry {H : Type} : Lit × DataW H → Nat
  | (.string bytes, d) => bytes.length + uptoBulk d + 1
  | (_, d) => uptoBulk d + 1
 end
def uptoSmall : (H : Type) → List (DataW H) → Bool := fun _ ds => decide (uptoBulkAll ds ≤ 1048576)
def OpenSpec.upto (s : _root_.Go.ChangeSpec) : _root_.Go.OpenSpec := { _root_.Go.OpenSpec.ofChange s with cond := some uptoSmall }

/-- 'worldmintlaw36.MoveHomes', WHERE WHAT IT READS IS OF BULK AT MOST 1048576: true; the input reads as it did. -/
def moveHomesUptoRow : OpenClaim := { program := "ytclgjkeeaopppaagreatdoor", sum := "2623622686708c1b509464e2b6756ff26d0233a2ec930d22e292ac579b2e906d", func := "worldmint/worldmintlaw36.MoveHomes", spec := "moveHomes", inPlace := ["internal/bytealg.IndexByteString"], unfollowed := true, recurses := true, named := ["worldmint/lexer.kinds", "math/bits.divideError", "math/bits.overflowError"], plainKeys := false, apart := false, laid := [("worldmint/lexer.kinds", laid_worldmint_lexer_kinds)], narrowed := true }
def MoveHomesUptoSaid : Prop := moveHomesUptoRow.holds Tryz.pinned (OpenSpec.upto moveHomesSpec)

/-- 'worldmintlaw36.MoveSplits', WHERE WHAT IT READS IS OF BULK AT MOST 1048576: true; the input reads as it did. -/
def moveSplitsUptoRow : OpenClaim := { program := "ytclgjkeeaopppaagreatdoor", sum := "2623622686708c1b509464e2b6756ff26d0233a2ec930d22e292ac579b2e906d", func := "worldmint/worldmintlaw36.MoveSplits", spec := "moveSplits", inPlace := ["internal/bytealg.IndexByteString"], unfollowed := true, recurses := true, named := ["worldmint/lexer.kinds", "math/bits.divideError", "math/bits.overflowError"], plainKeys := false, apart := false, laid := [("worldmint/lexer.kinds", laid_worldmint_lexer_kinds)], narrowed := true }
def MoveSplitsUptoSaid : Prop := moveSplitsUptoRow.holds Tryz.pinned (OpenSpec.upto moveSplitsSpec)

/-- 'worldmintlaw36.MoveLives', WHERE WHAT IT READS IS OF BULK AT MOST 1048576: true; the input reads as it did. -/
def moveLivesUptoRow : OpenClaim := { program := "ytclgjkeeaopppaagreatdoor", sum := "2623622686708c1b509464e2b6756ff26d0233a2ec930d22e292ac579b2e906d", func := "worldmint/worldmintlaw36.MoveLives", spec := "moveLives", inPlace := ["internal/bytealg.IndexByteString"], unfollowed := true, recurses := true, named := ["worldmint/lexer.kinds", "math/bits.divideError", "math/bits.overflowError"], plainKeys := false, apart := false, laid := [("worldmint/lexer.kinds", laid_worldmint_lexer_kinds)], narrowed := true }
def MoveLivesUptoSaid : Prop := moveLivesUptoRow.holds Tryz.pinned (OpenSpec.upto moveLivesSpec)

/-- 'worldmintlaw36.MoveLegs', WHERE WHAT IT READS IS OF BULK AT MOST 1048576: true; the input reads as it did. -/
def moveLegsUptoRow : OpenClaim := { program := "ytclgjkeeaopppaagreatdoor", sum := "2623622686708c1b509464e2b6756ff26d0233a2ec930d22e292ac579b2e906d", func := "worldmint/worldmintlaw36.MoveLegs", spec := "moveLegs", inPlace := ["internal/bytealg.IndexByteString"], unfollowed := true, recurses := true, named := ["worldmint/lexer.kinds", "math/bits.divideError", "math/bits.overflowError"], plainKeys := false, apart := false, laid := [("worldmint/lexer.kinds", laid_worldmint_lexer_kinds)], narrowed := true }
def MoveLegsUptoSaid : Prop := moveLegsUptoRow.holds Tryz.pinned (OpenSpec.upto moveLegsSpec)

/-- 'worldmintlaw36.MovePlans', WHERE WHAT IT READS IS OF BULK AT MOST 1048576: true; the input reads as it did. -/
def movePlansUptoRow : OpenClaim := { program := "ytclgjkeeaopppaagreatdoor", sum := "2623622686708c1b509464e2b6756ff26d0233a2ec930d22e292ac579b2e906d", func := "worldmint/worldmintlaw36.MovePlans", spec := "movePlans", inPlace := ["internal/bytealg.IndexByteString"], unfollowed := true, recurses := true, named := ["worldmint/lexer.kinds", "math/bits.divideError", "math/bits.overflowError"], plainKeys := false, apart := false, laid := [("worldmint/lexer.kinds", laid_worldmint_lexer_kinds)], narrowed := true }
def MovePlansUptoSaid : Prop := movePlansUptoRow.holds Tryz.pinned (OpenSpec.upto movePlansSpec)

/-- 'worldmintlaw36.MoveMoving', WHERE WHAT IT READS IS OF BULK AT MOST 1048576: true; the input reads as it did. -/
def moveMovingUptoRow : OpenClaim := { program := "ytclgjkeeaopppaagreatdoor", sum := "2623622686708c1b509464e2b6756ff26d0233a2ec930d22e292ac579b2e906d", func := "worldmint/worldmintlaw36.MoveMoving", spec := "moveMoving", inPlace := ["internal/bytealg.IndexByteString"], unfollowed := true, recurses := true, named := ["worldmint/lexer.kinds", "math/bits.divideError", "math/bits.overflowError"], plainKeys := false, apart := false, laid := [("worldmint/lexer.kinds", laid_worldmint_lexer_kinds)], narrowed := true }
def MoveMovingUptoSaid : Prop := moveMovingUptoRow.holds Tryz.pinned (OpenSpec.upto moveMovingSpec)

end Rows
end Go.Proofs.YtclgjkeeaopppaaGreatDoor
