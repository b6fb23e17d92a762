/-
  NARROWER THAN 'FOR EVERY INPUT', by the rows' own cells (each row's printed sentence says how): CraftLoots: laid · CraftTimes: laid · CraftRolls: laid · CraftCancels: laid · CraftScripts: laid · CraftNew: laid · CraftHolds: laid.
  DERIVED. THE GIVEN ROWS OF THIS SEAT. 7 by the template 'for every input the law returns true; each argument reads behind the call as it read before'; 0 by the template 'total and deterministic' (their statements: YtfmgkkofledkbaaGreatDoorTotals.lean).
  GIVEN WITH THE SEED: the statements are not yours to turn. If you find one false, say at which input.
  Laid BY PROGRAM, IN A SANDBOX (cutbox-rows.mjs): the forced cells as the released guide's own fill.sh prints them over the translation f4d105d95a609228… (all of the seat's roots in one cut). By AI agents, Wed Nov 11 2026. No macro, syntax, notation, axiom, sorry.
-/
import Derived.Test.YtfmgkkofledkbaaGreatDoorChecked
import GoSem.Claim
import GoSem.ClaimJoined
import GoSem.ClaimMapViews
import Derived.JoinedTies
import Derived.KernelRfl
namespace Go.Proofs.YtfmgkkofledkbaaGreatDoor
/- THE CELL 'sum', in the pinned program and in every row, IS THE sha256 OF THE DUMP (.gsa) THAT YtfmgkkofledkbaaGreatDoorProg.lean LOADS. Nothing in Lean hashes anything: it is a label: what it is worth is what the hold of that sum in a sandbox is worth. -/
noncomputable def Tryz.pinned : Pinned := { name := "ytfmgkkofledkbaagreatdoor", sum := "f4d105d95a60922851079d0cd14bd377d61c05137f47cc1835a528a2f3382b2b", checked := Tryz.checked }
namespace Rows
def none {H : Type} : Left H := { results := [], args := [] }

/- WHAT THE LISTED PACKAGE-LEVEL VARIABLES READ AS WHEN THE CALL BEGINS. Each datum BY PROGRAM (the guide's laid-datum.mjs) off the statement by which the dump's own 'gosem.cut.vars' lays the variable. In a bare row this is a premise. The card (YtfmgkkofledkbaaGreatDoorCards.lean) ties it to the program's text. -/
def laid_math_bits_deBruijn32tab {H : Type} : DataW H := .agg [.lit (.int .u8 0), .lit (.int .u8 1), .lit (.int .u8 28), .lit (.int .u8 2), .lit (.int .u8 29), .lit (.int .u8 14), .lit (.int .u8 24), .lit (.int .u8 3), .lit (.int .u8 30), .lit (.int .u8 22), .lit (.int .u8 20), .lit (.int .u8 15), .lit (.int .u8 25), .lit (.int .u8 17), .lit (.int .u8 4), .lit (.int .u8 8), .lit (.int .u8 31), .lit (.int .u8 27), .lit (.int .u8 13), .lit (.int .u8 23), .lit (.int .u8 21), .lit (.int .u8 19), .lit (.int .u8 16), .lit (.int .u8 7), .lit (.int .u8 26), .lit (.int .u8 12), .lit (.int .u8 18), .lit (.int .u8 6), .lit (.int .u8 11), .lit (.int .u8 5), .lit (.int .u8 10), .lit (.int .u8 9)]
def laid_math_bits_deBruijn64tab {H : Type} : DataW H := .agg [.lit (.int .u8 0), .lit (.int .u8 1), .lit (.int .u8 56), .lit (.int .u8 2), .lit (.int .u8 57), .lit (.int .u8 49), .lit (.int .u8 28), .lit (.int .u8 3), .lit (.int .u8 61), .lit (.int .u8 58), .lit (.int .u8 42), .lit (.int .u8 50), .lit (.int .u8 38), .lit (.int .u8 29), .lit (.int .u8 17), .lit (.int .u8 4), .lit (.int .u8 62), .lit (.int .u8 47), .lit (.int .u8 59), .lit (.int .u8 36), .lit (.int .u8 45), .lit (.int .u8 43), .lit (.int .u8 51), .lit (.int .u8 22), .lit (.int .u8 53), .lit (.int .u8 39), .lit (.int .u8 33), .lit (.int .u8 30), .lit (.int .u8 24), .lit (.int .u8 18), .lit (.int .u8 12), .lit (.int .u8 5), .lit (.int .u8 63), .lit (.int .u8 55), .lit (.int .u8 48), .lit (.int .u8 27), .lit (.int .u8 60), .lit (.int .u8 41), .lit (.int .u8 37), .lit (.int .u8 16), .lit (.int .u8 46), .lit (.int .u8 35), .lit (.int .u8 44), .lit (.int .u8 21), .lit (.int .u8 52), .lit (.int .u8 32), .lit (.int .u8 23), .lit (.int .u8 11), .lit (.int .u8 54), .lit (.int .u8 26), .lit (.int .u8 40), .lit (.int .u8 15), .lit (.int .u8 34), .lit (.int .u8 20), .lit (.int .u8 31), .lit (.int .u8 10), .lit (.int .u8 25), .lit (.int .u8 14), .lit (.int .u8 19), .lit (.int .u8 9), .lit (.int .u8 13), .lit (.int .u8 8), .lit (.int .u8 7), .lit (.int .u8 6)]
def laid_internal_strconv_uint64pow10 {H : Type} : DataW H := .agg [.lit (.int .u64 1), .lit (.int .u64 10), .lit (.int .u64 100), .lit (.int .u64 1000), .lit (.int .u64 10000), .lit (.int .u64 100000), .lit (.int .u64 1000000), .lit (.int .u64 10000000), .lit (.int .u64 100000000), .lit (.int .u64 1000000000), .lit (.int .u64 10000000000), .lit (.int .u64 100000000000), .lit (.int .u64 1000000000000), .lit (.int .u64 10000000000000), .lit (.int .u64 100000000000000), .lit (.int .u64 1000000000000000), .lit (.int .u64 10000000000000000), .lit (.int .u64 100000000000000000), .lit (.int .u64 1000000000000000000), .lit (.int .u64 10000000000000000000)]
def laid_worldmint_lexer_kinds {H : Type} : DataW H := .agg [.lit (.int .u8 0), .lit (.int .u8 0), .lit (.int .u8 0), .lit (.int .u8 0), .lit (.int .u8 0), .lit (.int .u8 0), .lit (.int .u8 0), .lit (.int .u8 0), .lit (.int .u8 0), .lit (.int .u8 1), .lit (.int .u8 1), .lit (.int .u8 0), .lit (.int .u8 0), .lit (.int .u8 0), .lit (.int .u8 0), .lit (.int .u8 0), .lit (.int .u8 0), .lit (.int .u8 0), .lit (.int .u8 0), .lit (.int .u8 0), .lit (.int .u8 0), .lit (.int .u8 0), .lit (.int .u8 0), .lit (.int .u8 0), .lit (.int .u8 0), .lit (.int .u8 0), .lit (.int .u8 0), .lit (.int .u8 0), .lit (.int .u8 0), .lit (.int .u8 0), .lit (.int .u8 0), .lit (.int .u8 0), .lit (.int .u8 1), .lit (.int .u8 0), .lit (.int .u8 0), .lit (.int .u8 2), .lit (.int .u8 0), .lit (.int .u8 0), .lit (.int .u8 0), .lit (.int .u8 0), .lit (.int .u8 7), .lit (.int .u8 7), .lit (.int .u8 0), .lit (.int .u8 7), .lit (.int .u8 7), .lit (.int .u8 6), .lit (.int .u8 7), .lit (.int .u8 0), .lit (.int .u8 4), .lit (.int .u8 4), .lit (.int .u8 4), .lit (.int .u8 4), .lit (.int .u8 4), .lit (.int .u8 4), .lit (.int .u8 4), .lit (.int .u8 4), .lit (.int .u8 4), .lit (.int .u8 4), .lit (.int .u8 7), .lit (.int .u8 7), .lit (.int .u8 7), .lit (.int .u8 7), .lit (.int .u8 7), .lit (.int .u8 0), .lit (.int .u8 0), .lit (.int .u8 0), .lit (.int .u8 0), .lit (.int .u8 0), .lit (.int .u8 0), .lit (.int .u8 0), .lit (.int .u8 0), .lit (.int .u8 0), .lit (.int .u8 0), .lit (.int .u8 0), .lit (.int .u8 0), .lit (.int .u8 0), .lit (.int .u8 0), .lit (.int .u8 0), .lit (.int .u8 0), .lit (.int .u8 0), .lit (.int .u8 0), .lit (.int .u8 0), .lit (.int .u8 0), .lit (.int .u8 0), .lit (.int .u8 0), .lit (.int .u8 0), .lit (.int .u8 0), .lit (.int .u8 0), .lit (.int .u8 0), .lit (.int .u8 0), .lit (.int .u8 0), .lit (.int .u8 0), .lit (.int .u8 0), .lit (.int .u8 0), .lit (.int .u8 0), .lit (.int .u8 5), .lit (.int .u8 0), .lit (.int .u8 3), .lit (.int .u8 3), .lit (.int .u8 3), .lit (.int .u8 3), .lit (.int .u8 3), .lit (.int .u8 3), .lit (.int .u8 3), .lit (.int .u8 3), .lit (.int .u8 3), .lit (.int .u8 3), .lit (.int .u8 3), .lit (.int .u8 3), .lit (.int .u8 3), .lit (.int .u8 3), .lit (.int .u8 3), .lit (.int .u8 3), .lit (.int .u8 3), .lit (.int .u8 3), .lit (.int .u8 3), .lit (.int .u8 3), .lit (.int .u8 3), .lit (.int .u8 3), .lit (.int .u8 3), .lit (.int .u8 3), .lit (.int .u8 3), .lit (.int .u8 3), .lit (.int .u8 7), .lit (.int .u8 0), .lit (.int .u8 7), .lit (.int .u8 0), .lit (.int .u8 0)]

/-- 'worldmintlaw18.CraftLoots': WHATEVER THE INPUT: true; the input reads as it did. -/
def craftLootsSpec : ChangeSpec := { name := "craftLoots", fn := fun _ => fun
  | [d1, d2] => { results := [.lit (.bool true)], args := [d1, d2] }
  | _ => none }
def craftLootsRow : OpenClaim := { program := "ytfmgkkofledkbaagreatdoor", sum := "f4d105d95a60922851079d0cd14bd377d61c05137f47cc1835a528a2f3382b2b", func := "worldmint/worldmintlaw18.CraftLoots", spec := "craftLoots", inPlace := ["internal/bytealg.IndexByteString", "maps.clone"], unfollowed := true, recurses := true, named := ["worldmint/lexer.kinds", "internal/strconv.uint64pow10", "math/bits.deBruijn32tab", "math/bits.deBruijn64tab", "math/bits.divideError", "math/bits.overflowError"], plainKeys := false, apart := false, laid := [("math/bits.deBruijn32tab", laid_math_bits_deBruijn32tab), ("math/bits.deBruijn64tab", laid_math_bits_deBruijn64tab), ("internal/strconv.uint64pow10", laid_internal_strconv_uint64pow10), ("worldmint/lexer.kinds", laid_worldmint_lexer_kinds)] }
def CraftLootsSaid : Prop := craftLootsRow.holds Tryz.pinned (OpenSpec.ofChange craftLootsSpec)

/-- ITS FALSE NEIGHBOUR: 'it returns false'. Refute it at one input. -/
def craftLootsWrong : ChangeSpec := { name := "craftLoots", fn := fun _ => fun
  | [d1, d2] => { results := [.lit (.bool false)], args := [d1, d2] }
  | _ => none }
def CraftLootsWrongFalsely : Prop := craftLootsRow.holds Tryz.pinned (OpenSpec.ofChange craftLootsWrong)

/-- 'worldmintlaw18.CraftTimes': WHATEVER THE INPUT: true; the input reads as it did. -/
def craftTimesSpec : ChangeSpec := { name := "craftTimes", fn := fun _ => fun
  | [d1, d2] => { results := [.lit (.bool true)], args := [d1, d2] }
  | _ => none }
def craftTimesRow : OpenClaim := { program := "ytfmgkkofledkbaagreatdoor", sum := "f4d105d95a60922851079d0cd14bd377d61c05137f47cc1835a528a2f3382b2b", func := "worldmint/worldmintlaw18.CraftTimes", spec := "craftTimes", inPlace := ["internal/bytealg.IndexByteString", "maps.clone"], unfollowed := true, recurses := true, named := ["worldmint/lexer.kinds", "math/bits.divideError", "math/bits.overflowError", "internal/strconv.uint64pow10", "math/bits.deBruijn32tab", "math/bits.deBruijn64tab"], plainKeys := false, apart := false, laid := [("math/bits.deBruijn32tab", laid_math_bits_deBruijn32tab), ("math/bits.deBruijn64tab", laid_math_bits_deBruijn64tab), ("internal/strconv.uint64pow10", laid_internal_strconv_uint64pow10), ("worldmint/lexer.kinds", laid_worldmint_lexer_kinds)] }
def CraftTimesSaid : Prop := craftTimesRow.holds Tryz.pinned (OpenSpec.ofChange craftTimesSpec)

/-- ITS FALSE NEIGHBOUR: 'it returns false'. Refute it at one input. -/
def craftTimesWrong : ChangeSpec := { name := "craftTimes", fn := fun _ => fun
  | [d1, d2] => { results := [.lit (.bool false)], args := [d1, d2] }
  | _ => none }
def CraftTimesWrongFalsely : Prop := craftTimesRow.holds Tryz.pinned (OpenSpec.ofChange craftTimesWrong)

/-- 'worldmintlaw18.CraftRolls': WHATEVER THE INPUT: true; the input reads as it did. -/
def craftRollsSpec : ChangeSpec := { name := "craftRolls", fn := fun _ => fun
  | [d1, d2, d3] => { results := [.lit (.bool true)], args := [d1, d2, d3] }
  | _ => none }
def craftRollsRow : OpenClaim := { program := "ytfmgkkofledkbaagreatdoor", sum := "f4d105d95a60922851079d0cd14bd377d61c05137f47cc1835a528a2f3382b2b", func := "worldmint/worldmintlaw18.CraftRolls", spec := "craftRolls", inPlace := ["internal/bytealg.IndexByteString", "maps.clone"], unfollowed := true, recurses := true, named := ["worldmint/lexer.kinds", "math/bits.divideError", "math/bits.overflowError", "internal/strconv.uint64pow10", "math/bits.deBruijn32tab", "math/bits.deBruijn64tab"], plainKeys := false, apart := false, laid := [("math/bits.deBruijn32tab", laid_math_bits_deBruijn32tab), ("math/bits.deBruijn64tab", laid_math_bits_deBruijn64tab), ("internal/strconv.uint64pow10", laid_internal_strconv_uint64pow10), ("worldmint/lexer.kinds", laid_worldmint_lexer_kinds)] }
def CraftRollsSaid : Prop := craftRollsRow.holds Tryz.pinned (OpenSpec.ofChange craftRollsSpec)

/-- ITS FALSE NEIGHBOUR: 'it returns false'. Refute it at one input. -/
def craftRollsWrong : ChangeSpec := { name := "craftRolls", fn := fun _ => fun
  | [d1, d2, d3] => { results := [.lit (.bool false)], args := [d1, d2, d3] }
  | _ => none }
def CraftRollsWrongFalsely : Prop := craftRollsRow.holds Tryz.pinned (OpenSpec.ofChange craftRollsWrong)

/-- 'worldmintlaw18.CraftCancels': WHATEVER THE INPUT: true; the input reads as it did. -/
def craftCancelsSpec : ChangeSpec := { name := "craftCancels", fn := fun _ => fun
  | [d1, d2, d3, d4] => { results := [.lit (.bool true)], args := [d1, d2, d3, d4] }
  | _ => none }
def craftCancelsRow : OpenClaim := { program := "ytfmgkkofledkbaagreatdoor", sum := "f4d105d95a60922851079d0cd14bd377d61c05137f47cc1835a528a2f3382b2b", func := "worldmint/worldmintlaw18.CraftCancels", spec := "craftCancels", inPlace := ["internal/bytealg.IndexByteString", "maps.clone"], unfollowed := true, recurses := true, named := ["worldmint/lexer.kinds", "math/bits.divideError", "math/bits.overflowError", "internal/strconv.uint64pow10", "math/bits.deBruijn32tab", "math/bits.deBruijn64tab"], plainKeys := false, apart := false, laid := [("math/bits.deBruijn32tab", laid_math_bits_deBruijn32tab), ("math/bits.deBruijn64tab", laid_math_bits_deBruijn64tab), ("internal/strconv.uint64pow10", laid_internal_strconv_uint64pow10), ("worldmint/lexer.kinds", laid_worldmint_lexer_kinds)] }
def CraftCancelsSaid : Prop := craftCancelsRow.holds Tryz.pinned (OpenSpec.ofChange craftCancelsSpec)

/-- ITS FALSE NEIGHBOUR: 'it returns false'. Refute it at one input. -/
def craftCancelsWrong : ChangeSpec := { name := "craftCancels", fn := fun _ => fun
  | [d1, d2, d3, d4] => { results := [.lit (.bool false)], args := [d1, d2, d3, d4] }
  | _ => none }
def CraftCancelsWrongFalsely : Prop := craftCancelsRow.holds Tryz.pinned (OpenSpec.ofChange craftCancelsWrong)

/-- 'worldmintlaw18.CraftScripts': WHATEVER THE INPUT: true; the input reads as it did. -/
def craftScriptsSpec : ChangeSpec := { name := "craftScripts", fn := fun _ => fun
  | [d1, d2] => { results := [.lit (.bool true)], args := [d1, d2] }
  | _ => none }
def craftScriptsRow : OpenClaim := { program := "ytfmgkkofledkbaagreatdoor", sum := "f4d105d95a60922851079d0cd14bd377d61c05137f47cc1835a528a2f3382b2b", func := "worldmint/worldmintlaw18.CraftScripts", spec := "craftScripts", inPlace := ["internal/bytealg.IndexByteString", "maps.clone"], unfollowed := true, recurses := true, named := ["worldmint/lexer.kinds", "math/bits.divideError", "math/bits.overflowError", "internal/strconv.uint64pow10", "math/bits.deBruijn32tab", "math/bits.deBruijn64tab"], plainKeys := false, apart := false, laid := [("math/bits.deBruijn32tab", laid_math_bits_deBruijn32tab), ("math/bits.deBruijn64tab", laid_math_bits_deBruijn64tab), ("internal/strconv.uint64pow10", laid_internal_strconv_uint64pow10), ("worldmint/lexer.kinds", laid_worldmint_lexer_kinds)] }
def CraftScriptsSaid : Prop := craftScriptsRow.holds Tryz.pinned (OpenSpec.ofChange craftScriptsSpec)

/-- ITS FALSE NEIGHBOUR: 'it returns false'. Refute it at one input. -/
def craftScriptsWrong : ChangeSpec := { name := "craftScripts", fn := fun _ => fun
  | [d1, d2] => { results := [.lit (.bool false)], args := [d1, d2] }
  | _ => none }
def CraftScriptsWrongFalsely : Prop := craftScriptsRow.holds Tryz.pinned (OpenSpec.ofChange craftScriptsWrong)

/-- 'worldmintlaw18.CraftNew': WHATEVER THE INPUT: true; the input reads as it did. -/
def craftNewSpec : ChangeSpec := { name := "craftNew", fn := fun _ => fun
  | [d1, d2, d3, d4, d5] => { results := [.lit (.bool true)], args := [d1, d2, d3, d4, d5] }
  | _ => none }
def craftNewRow : OpenClaim := { program := "ytfmgkkofledkbaagreatdoor", sum := "f4d105d95a60922851079d0cd14bd377d61c05137f47cc1835a528a2f3382b2b", func := "worldmint/worldmintlaw18.CraftNew", spec := "craftNew", inPlace := ["internal/bytealg.IndexByteString", "maps.clone"], unfollowed := true, recurses := true, named := ["worldmint/lexer.kinds", "math/bits.divideError", "math/bits.overflowError", "internal/strconv.uint64pow10", "math/bits.deBruijn32tab", "math/bits.deBruijn64tab"], plainKeys := false, apart := false, laid := [("math/bits.deBruijn32tab", laid_math_bits_deBruijn32tab), ("math/bits.deBruijn64tab", laid_math_bits_deBruijn64tab), ("internal/strconv.uint64pow10", laid_internal_strconv_uint64pow10), ("worldmint/lexer.kinds", laid_worldmint_lexer_kinds)] }
def CraftNewSaid : Prop := craftNewRow.holds Tryz.pinned (OpenSpec.ofChange craftNewSpec)

/-- ITS FALSE NEIGHBOUR: 'it returns false'. Refute it at one input. -/
def craftNewWrong : ChangeSpec := { name := "craftNew", fn := fun _ => fun
  | [d1, d2, d3, d4, d5] => { results := [.lit (.bool false)], args := [d1, d2, d3, d4, d5] }
  | _ => none }
def CraftNewWrongFalsely : Prop := craftNewRow.holds Tryz.pinned (OpenSpec.ofChange craftNewWrong)

/-- 'worldmintlaw18.CraftHolds': WHATEVER THE INPUT: true; the input reads as it did. -/
def craftHoldsSpec : ChangeSpec := { name := "craftHolds", fn := fun _ => fun
  | [d1, d2] => { results := [.lit (.bool true)], args := [d1, d2] }
  | _ => none }
def craftHoldsRow : OpenClaim := { program := "ytfmgkkofledkbaagreatdoor", sum := "f4d105d95a60922851079d0cd14bd377d61c05137f47cc1835a528a2f3382b2b", func := "worldmint/worldmintlaw18.CraftHolds", spec := "craftHolds", inPlace := ["internal/bytealg.IndexByteString", "maps.clone"], unfollowed := true, recurses := true, named := ["worldmint/lexer.kinds", "math/bits.divideError", "math/bits.overflowError", "internal/strconv.uint64pow10", "math/bits.deBruijn32tab", "math/bits.deBruijn64tab"], plainKeys := false, apart := false, laid := [("math/bits.deBruijn32tab", laid_math_bits_deBruijn32tab), ("math/bits.deBruijn64tab", laid_math_bits_deBruijn64tab), ("internal/strconv.uint64pow10", laid_internal_strconv_uint64pow10), ("worldmint/lexer.kinds", laid_worldmint_lexer_kinds)] }
def CraftHoldsSaid : Prop := craftHoldsRow.holds Tryz.pinned (OpenSpec.ofChange craftHoldsSpec)

/-- ITS FALSE NEIGHBOUR: 'it returns false'. Refute it at one input. -/
def craftHoldsWrong : ChangeSpec := { name := "craftHolds", fn := fun _ => fun
  | [d1, d2] => { results := [.lit (.bool false)], args := [d1, d2] }
  | _ => none }
def CraftHoldsWrongFalsely : Prop := craftHoldsRow.holds Tryz.pinned (OpenSpec.ofChange craftHoldsWrong)

/- THE SECOND FORM. 'bulk': how many values and letters a reading holds, each counted each time it is reached (what is shared counts as often as it is met; a slice's spare places count too). A statement '..UptoSaid' is the law's where the arguments, and the package variables that the reading takes, are together of bulk at most 1048576: NARROWER than '..Said'. Prove '..Said' where nothing that the law and all that it calls make is longer than what came in: it says more and counts as full. Else prove '..UptoSaid'. A law counts once. -/
mutual
def uptoBulk {H : Type} : DataW H → Nat
  | .lit (.string bytes) => bytes.length + 1
  | .lit _ => 1
  | .nil => 1
  | .ptr d => uptoBulk d + 1
  | .slice elems spare => uptoBulkAll elems + uptoBulkAll spare + 1
  | .agg parts => uptoBulkAll parts + 1
  | .iface _ d => uptoBulk d + 1
  | .map entries => uptoBulkEntries entries + 1
  | .held _ => 1
def uptoBulkAll {H : Type} : List (DataW H) → Nat
  | [] => 0
  | d :: r => uptoBulk d + uptoBulkAll r
def uptoBulkEntries {H : Type} : List (Lit × DataW H) → Nat
  | [] => 0
  | x :: r => uptoBulkEntry x + uptoBulkEntries r
def uptoBulkEntry {H : Type} : Lit × DataW H → Nat
  | (.string bytes, d) => bytes.length + uptoBulk d + 1
  | (_, d) => uptoBulk d + 1
 end
def uptoSmall : (H : Type) → List (DataW H) → Bool := fun _ ds => decide (uptoBulkAll ds ≤ 1048576)
def OpenSpec.upto (s : _root_.Go.ChangeSpec) : _root_.Go.OpenSpec := { _root_.Go.OpenSpec.ofChange s with cond := some uptoSmall }

/-- 'worldmintlaw18.CraftLoots', WHERE WHAT IT READS IS OF BULK AT MOST 1048576: true; the input reads as it did. -/
def craftLootsUptoRow : OpenClaim := { program := "ytfmgkkofledkbaagreatdoor", sum := "f4d105d95a60922851079d0cd14bd377d61c05137f47cc1835a528a2f3382b2b", func := "worldmint/worldmintlaw18.CraftLoots", spec := "craftLoots", inPlace := ["internal/bytealg.IndexByteString", "maps.clone"], unfollowed := true, recurses := true, named := ["worldmint/lexer.kinds", "internal/strconv.uint64pow10", "math/bits.deBruijn32tab", "math/bits.deBruijn64tab", "math/bits.divideError", "math/bits.overflowError"], plainKeys := false, apart := false, laid := [("math/bits.deBruijn32tab", laid_math_bits_deBruijn32tab), ("math/bits.deBruijn64tab", laid_math_bits_deBruijn64tab), ("internal/strconv.uint64pow10", laid_internal_strconv_uint64pow10), ("worldmint/lexer.kinds", laid_worldmint_lexer_kinds)], narrowed := true }
def CraftLootsUptoSaid : Prop := craftLootsUptoRow.holds Tryz.pinned (OpenSpec.upto craftLootsSpec)

/-- 'worldmintlaw18.CraftTimes', WHERE WHAT IT READS IS OF BULK AT MOST 1048576: true; the input reads as it did. -/
def craftTimesUptoRow : OpenClaim := { program := "ytfmgkkofledkbaagreatdoor", sum := "f4d105d95a60922851079d0cd14bd377d61c05137f47cc1835a528a2f3382b2b", func := "worldmint/worldmintlaw18.CraftTimes", spec := "craftTimes", inPlace := ["internal/bytealg.IndexByteString", "maps.clone"], unfollowed := true, recurses := true, named := ["worldmint/lexer.kinds", "math/bits.divideError", "math/bits.overflowError", "internal/strconv.uint64pow10", "math/bits.deBruijn32tab", "math/bits.deBruijn64tab"], plainKeys := false, apart := false, laid := [("math/bits.deBruijn32tab", laid_math_bits_deBruijn32tab), ("math/bits.deBruijn64tab", laid_math_bits_deBruijn64tab), ("internal/strconv.uint64pow10", laid_internal_strconv_uint64pow10), ("worldmint/lexer.kinds", laid_worldmint_lexer_kinds)], narrowed := true }
def CraftTimesUptoSaid : Prop := craftTimesUptoRow.holds Tryz.pinned (OpenSpec.upto craftTimesSpec)

/-- 'worldmintlaw18.CraftRolls', WHERE WHAT IT READS IS OF BULK AT MOST 1048576: true; the input reads as it did. -/
def craftRollsUptoRow : OpenClaim := { program := "ytfmgkkofledkbaagreatdoor", sum := "f4d105d95a60922851079d0cd14bd377d61c05137f47cc1835a528a2f3382b2b", func := "worldmint/worldmintlaw18.CraftRolls", spec := "craftRolls", inPlace := ["internal/bytealg.IndexByteString", "maps.clone"], unfollowed := true, recurses := true, named := ["worldmint/lexer.kinds", "math/bits.divideError", "math/bits.overflowError", "internal/strconv.uint64pow10", "math/bits.deBruijn32tab", "math/bits.deBruijn64tab"], plainKeys := false, apart := false, laid := [("math/bits.deBruijn32tab", laid_math_bits_deBruijn32tab), ("math/bits.deBruijn64tab", laid_math_bits_deBruijn64tab), ("internal/strconv.uint64pow10", laid_internal_strconv_uint64pow10), ("worldmint/lexer.kinds", laid_worldmint_lexer_kinds)], narrowed := true }
def CraftRollsUptoSaid : Prop := craftRollsUptoRow.holds Tryz.pinned (OpenSpec.upto craftRollsSpec)

/-- 'worldmintlaw18.CraftCancels', WHERE WHAT IT READS IS OF BULK AT MOST 1048576: true; the input reads as it did. -/
def craftCancelsUptoRow : OpenClaim := { program := "ytfmgkkofledkbaagreatdoor", sum := "f4d105d95a60922851079d0cd14bd377d61c05137f47cc1835a528a2f3382b2b", func := "worldmint/worldmintlaw18.CraftCancels", spec := "craftCancels", inPlace := ["internal/bytealg.IndexByteString", "maps.clone"], unfollowed := true, recurses := true, named := ["worldmint/lexer.kinds", "math/bits.divideError", "math/bits.overflowError", "internal/strconv.uint64pow10", "math/bits.deBruijn32tab", "math/bits.deBruijn64tab"], plainKeys := false, apart := false, laid := [("math/bits.deBruijn32tab", laid_math_bits_deBruijn32tab), ("math/bits.deBruijn64tab", laid_math_bits_deBruijn64tab), ("internal/strconv.uint64pow10", laid_internal_strconv_uint64pow10), ("worldmint/lexer.kinds", laid_worldmint_lexer_kinds)], narrowed := true }
def CraftCancelsUptoSaid : Prop := craftCancelsUptoRow.holds Tryz.pinned (OpenSpec.upto craftCancelsSpec)

/-- 'worldmintlaw18.CraftScripts', WHERE WHAT IT READS IS OF BULK AT MOST 1048576: true; the input reads as it did. -/
def craftScriptsUptoRow : OpenClaim := { program := "ytfmgkkofledkbaagreatdoor", sum := "f4d105d95a60922851079d0cd14bd377d61c05137f47cc1835a528a2f3382b2b", func := "worldmint/worldmintlaw18.CraftScripts", spec := "craftScripts", inPlace := ["internal/bytealg.IndexByteString", "maps.clone"], unfollowed := true, recurses := true, named := ["worldmint/lexer.kinds", "math/bits.divideError", "math/bits.overflowError", "internal/strconv.uint64pow10", "math/bits.deBruijn32tab", "math/bits.deBruijn64tab"], plainKeys := false, apart := false, laid := [("math/bits.deBruijn32tab", laid_math_bits_deBruijn32tab), ("math/bits.deBruijn64tab", laid_math_bits_deBruijn64tab), ("internal/strconv.uint64pow10", laid_internal_strconv_uint64pow10), ("worldmint/lexer.kinds", laid_worldmint_lexer_kinds)], narrowed := true }
def CraftScriptsUptoSaid : Prop := craftScriptsUptoRow.holds Tryz.pinned (OpenSpec.upto craftScriptsSpec)

/-- 'worldmintlaw18.CraftNew', WHERE WHAT IT READS IS OF BULK AT MOST 1048576: true; the input reads as it did. -/
def craftNewUptoRow : OpenClaim := { program := "ytfmgkkofledkbaagreatdoor", sum := "f4d105d95a60922851079d0cd14bd377d61c05137f47cc1835a528a2f3382b2b", func := "worldmint/worldmintlaw18.CraftNew", spec := "craftNew", inPlace := ["internal/bytealg.IndexByteString", "maps.clone"], unfollowed := true, recurses := true, named := ["worldmint/lexer.kinds", "math/bits.divideError", "math/bits.overflowError", "internal/strconv.uint64pow10", "math/bits.deBruijn32tab", "math/bits.deBruijn64tab"], plainKeys := false, apart := false, laid := [("math/bits.deBruijn32tab", laid_math_bits_deBruijn32tab), ("math/bits.deBruijn64tab", laid_math_bits_deBruijn64tab), ("internal/strconv.uint64pow10", laid_internal_strconv_uint64pow10), ("worldmint/lexer.kinds", laid_worldmint_lexer_kinds)], narrowed := true }
def CraftNewUptoSaid : Prop := craftNewUptoRow.holds Tryz.pinned (OpenSpec.upto craftNewSpec)

/-- 'worldmintlaw18.CraftHolds', WHERE WHAT IT READS IS OF BULK AT MOST 1048576: true; the input reads as it did. -/
def craftHoldsUptoRow : OpenClaim := { program := "ytfmgkkofledkbaagreatdoor", sum := "f4d105d95a60922851079d0cd14bd377d61c05137f47cc1835a528a2f3382b2b", func := "worldmint/worldmintlaw18.CraftHolds", spec := "craftHolds", inPlace := ["internal/bytealg.IndexByteString", "maps.clone"], unfollowed := true, recurses := true, named := ["worldmint/lexer.kinds", "math/bits.divideError", "math/bits.overflowError", "internal/strconv.uint64pow10", "math/bits.deBruijn32tab", "math/bits.deBruijn64tab"], plainKeys := false, apart := false, laid := [("math/bits.deBruijn32tab", laid_math_bits_deBruijn32tab), ("math/bits.deBruijn64tab", laid_math_bits_deBruijn64tab), ("internal/strconv.uint64pow10", laid_internal_strconv_uint64pow10), ("worldmint/lexer.kinds", laid_worldmint_lexer_kinds)], narrowed := true }
def CraftHoldsUptoSaid : Prop := craftHoldsUptoRow.holds Tryz.pinned (OpenSpec.upto craftHoldsSpec)

end Rows
end Go.Proofs.YtfmgkkofledkbaaGreatDoor
