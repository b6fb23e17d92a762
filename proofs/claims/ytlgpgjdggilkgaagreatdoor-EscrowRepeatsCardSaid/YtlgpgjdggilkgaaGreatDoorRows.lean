/-
  NARROWER THAN 'FOR EVERY INPUT', by the rows' own cells (each row's printed sentence says how): EscrowConserves: laid · EscrowTogether: laid · EscrowDeadline: laid · EscrowRuns: laid · EscrowRepeats: laid · EscrowCopies: laid · EscrowOrigins: laid.
  DERIVED. THE GIVEN ROWS OF THIS SEAT. 7 by the template 'for every input the law returns true; each argument reads behind the call as it read before'; 0 by the template 'total and deterministic' (their statements: YtlgpgjdggilkgaaGreatDoorTotals.lean).
  GIVEN WITH THE SEED: the statements are not yours to turn. If you find one false, say at which input.
  Laid BY PROGRAM, IN A SANDBOX (cutbox-rows.mjs): the forced cells as the released guide's own fill.sh prints them over the translation d664df3472923aae… (all of the seat's roots in one cut). By AI agents, Wed Nov 11 2026. No macro, syntax, notation, axiom, sorry.
-/
import Derived.Test.YtlgpgjdggilkgaaGreatDoorChecked
import GoSem.Claim
import GoSem.ClaimJoined
import GoSem.ClaimMapViews
import Derived.JoinedTies
import Derived.KernelRfl
namespace Go.Proofs.YtlgpgjdggilkgaaGreatDoor
/- THE CELL 'sum', in the pinned program and in every row, IS THE sha256 OF THE DUMP (.gsa) THAT YtlgpgjdggilkgaaGreatDoorProg.lean LOADS. Nothing in Lean hashes anything: it is a label: what it is worth is what the hold of that sum in a sandbox is worth. -/
noncomputable def Tryz.pinned : Pinned := { name := "ytlgpgjdggilkgaagreatdoor", sum := "d664df3472923aae5a12906d352d9419304f296c4486b5c57f8b29a4ce5a78cf", checked := Tryz.checked }
namespace Rows
def none {H : Type} : Left H := { results := [], args := [] }

/- WHAT THE LISTED PACKAGE-LEVEL VARIABLES READ AS WHEN THE CALL BEGINS. Each datum BY PROGRAM (the guide's laid-datum.mjs) off the statement by which the dump's own 'gosem.cut.vars' lays the variable. In a bare row this is a premise. The card (YtlgpgjdggilkgaaGreatDoorCards.lean) ties it to the program's text. -/
def laid_worldmint_lexer_kinds {H : Type} : DataW H := .agg [.lit (.int .u8 0), .lit (.int .u8 0), .lit (.int .u8 0), .lit (.int .u8 0), .lit (.int .u8 0), .lit (.int .u8 0), .lit (.int .u8 0), .lit (.int .u8 0), .lit (.int .u8 0), .lit (.int .u8 1), .lit (.int .u8 1), .lit (.int .u8 0), .lit (.int .u8 0), .lit (.int .u8 0), .lit (.int .u8 0), .lit (.int .u8 0), .lit (.int .u8 0), .lit (.int .u8 0), .lit (.int .u8 0), .lit (.int .u8 0), .lit (.int .u8 0), .lit (.int .u8 0), .lit (.int .u8 0), .lit (.int .u8 0), .lit (.int .u8 0), .lit (.int .u8 0), .lit (.int .u8 0), .lit (.int .u8 0), .lit (.int .u8 0), .lit (.int .u8 0), .lit (.int .u8 0), .lit (.int .u8 0), .lit (.int .u8 1), .lit (.int .u8 0), .lit (.int .u8 0), .lit (.int .u8 2), .lit (.int .u8 0), .lit (.int .u8 0), .lit (.int .u8 0), .lit (.int .u8 0), .lit (.int .u8 7), .lit (.int .u8 7), .lit (.int .u8 0), .lit (.int .u8 7), .lit (.int .u8 7), .lit (.int .u8 6), .lit (.int .u8 7), .lit (.int .u8 0), .lit (.int .u8 4), .lit (.int .u8 4), .lit (.int .u8 4), .lit (.int .u8 4), .lit (.int .u8 4), .lit (.int .u8 4), .lit (.int .u8 4), .lit (.int .u8 4), .lit (.int .u8 4), .lit (.int .u8 4), .lit (.int .u8 7), .lit (.int .u8 7), .lit (.int .u8 7), .lit (.int .u8 7), .lit (.int .u8 7), .lit (.int .u8 0), .lit (.int .u8 0), .lit (.int .u8 0), .lit (.int .u8 0), .lit (.int .u8 0), .lit (.int .u8 0), .lit (.int .u8 0), .lit (.int .u8 0), .lit (.int .u8 0), .lit (.int .u8 0), .lit (.int .u8 0), .lit (.int .u8 0), .lit (.int .u8 0), .lit (.int .u8 0), .lit (.int .u8 0), .lit (.int .u8 0), .lit (.int .u8 0), .lit (.int .u8 0), .lit (.int .u8 0), .lit (.int .u8 0), .lit (.int .u8 0), .lit (.int .u8 0), .lit (.int .u8 0), .lit (.int .u8 0), .lit (.int .u8 0), .lit (.int .u8 0), .lit (.int .u8 0), .lit (.int .u8 0), .lit (.int .u8 0), .lit (.int .u8 0), .lit (.int .u8 0), .lit (.int .u8 0), .lit (.int .u8 5), .lit (.int .u8 0), .lit (.int .u8 3), .lit (.int .u8 3), .lit (.int .u8 3), .lit (.int .u8 3), .lit (.int .u8 3), .lit (.int .u8 3), .lit (.int .u8 3), .lit (.int .u8 3), .lit (.int .u8 3), .lit (.int .u8 3), .lit (.int .u8 3), .lit (.int .u8 3), .lit (.int .u8 3), .lit (.int .u8 3), .lit (.int .u8 3), .lit (.int .u8 3), .lit (.int .u8 3), .lit (.int .u8 3), .lit (.int .u8 3), .lit (.int .u8 3), .lit (.int .u8 3), .lit (.int .u8 3), .lit (.int .u8 3), .lit (.int .u8 3), .lit (.int .u8 3), .lit (.int .u8 3), .lit (.int .u8 7), .lit (.int .u8 0), .lit (.int .u8 7), .lit (.int .u8 0), .lit (.int .u8 0)]

/-- 'worldmintlaw22.EscrowConserves': WHATEVER THE INPUT: true; the input reads as it did. -/
def escrowConservesSpec : ChangeSpec := { name := "escrowConserves", fn := fun _ => fun
  | [d1, d2, d3] => { results := [.lit (.bool true)], args := [d1, d2, d3] }
  | _ => none }
def escrowConservesRow : OpenClaim := { program := "ytlgpgjdggilkgaagreatdoor", sum := "d664df3472923aae5a12906d352d9419304f296c4486b5c57f8b29a4ce5a78cf", func := "worldmint/worldmintlaw22.EscrowConserves", spec := "escrowConserves", inPlace := ["internal/bytealg.IndexByteString"], unfollowed := true, recurses := true, named := ["worldmint/lexer.kinds", "math/bits.divideError", "math/bits.overflowError"], plainKeys := false, apart := false, laid := [("worldmint/lexer.kinds", laid_worldmint_lexer_kinds)] }
def EscrowConservesSaid : Prop := escrowConservesRow.holds Tryz.pinned (OpenSpec.ofChange escrowConservesSpec)

/-- ITS FALSE NEIGHBOUR: 'it returns false'. Refute it at one input. -/
def escrowConservesWrong : ChangeSpec := { name := "escrowConserves", fn := fun _ => fun
  | [d1, d2, d3] => { results := [.lit (.bool false)], args := [d1, d2, d3] }
  | _ => none }
def EscrowConservesWrongFalsely : Prop := escrowConservesRow.holds Tryz.pinned (OpenSpec.ofChange escrowConservesWrong)

/-- 'worldmintlaw22.EscrowTogether': WHATEVER THE INPUT: true; the input reads as it did. -/
def escrowTogetherSpec : ChangeSpec := { name := "escrowTogether", fn := fun _ => fun
  | [d1, d2, d3] => { results := [.lit (.bool true)], args := [d1, d2, d3] }
  | _ => none }
def escrowTogetherRow : OpenClaim := { program := "ytlgpgjdggilkgaagreatdoor", sum := "d664df3472923aae5a12906d352d9419304f296c4486b5c57f8b29a4ce5a78cf", func := "worldmint/worldmintlaw22.EscrowTogether", spec := "escrowTogether", inPlace := ["internal/bytealg.IndexByteString"], unfollowed := true, recurses := true, named := ["worldmint/lexer.kinds", "math/bits.divideError", "math/bits.overflowError"], plainKeys := false, apart := false, laid := [("worldmint/lexer.kinds", laid_worldmint_lexer_kinds)] }
def EscrowTogetherSaid : Prop := escrowTogetherRow.holds Tryz.pinned (OpenSpec.ofChange escrowTogetherSpec)

/-- ITS FALSE NEIGHBOUR: 'it returns false'. Refute it at one input. -/
def escrowTogetherWrong : ChangeSpec := { name := "escrowTogether", fn := fun _ => fun
  | [d1, d2, d3] => { results := [.lit (.bool false)], args := [d1, d2, d3] }
  | _ => none }
def EscrowTogetherWrongFalsely : Prop := escrowTogetherRow.holds Tryz.pinned (OpenSpec.ofChange escrowTogetherWrong)

/-- 'worldmintlaw22.EscrowDeadline': WHATEVER THE INPUT: true; the input reads as it did. -/
def escrowDeadlineSpec : ChangeSpec := { name := "escrowDeadline", fn := fun _ => fun
  | [d1, d2, d3, d4] => { results := [.lit (.bool true)], args := [d1, d2, d3, d4] }
  | _ => none }
def escrowDeadlineRow : OpenClaim := { program := "ytlgpgjdggilkgaagreatdoor", sum := "d664df3472923aae5a12906d352d9419304f296c4486b5c57f8b29a4ce5a78cf", func := "worldmint/worldmintlaw22.EscrowDeadline", spec := "escrowDeadline", inPlace := ["internal/bytealg.IndexByteString"], unfollowed := true, recurses := true, named := ["worldmint/lexer.kinds", "math/bits.divideError", "math/bits.overflowError"], plainKeys := false, apart := false, laid := [("worldmint/lexer.kinds", laid_worldmint_lexer_kinds)] }
def EscrowDeadlineSaid : Prop := escrowDeadlineRow.holds Tryz.pinned (OpenSpec.ofChange escrowDeadlineSpec)

/-- ITS FALSE NEIGHBOUR: 'it returns false'. Refute it at one input. -/
def escrowDeadlineWrong : ChangeSpec := { name := "escrowDeadline", fn := fun _ => fun
  | [d1, d2, d3, d4] => { results := [.lit (.bool false)], args := [d1, d2, d3, d4] }
  | _ => none }
def EscrowDeadlineWrongFalsely : Prop := escrowDeadlineRow.holds Tryz.pinned (OpenSpec.ofChange escrowDeadlineWrong)

/-- 'worldmintlaw22.EscrowRuns': WHATEVER THE INPUT: true; the input reads as it did. -/
def escrowRunsSpec : ChangeSpec := { name := "escrowRuns", fn := fun _ => fun
  | [d1, d2, d3] => { results := [.lit (.bool true)], args := [d1, d2, d3] }
  | _ => none }
def escrowRunsRow : OpenClaim := { program := "ytlgpgjdggilkgaagreatdoor", sum := "d664df3472923aae5a12906d352d9419304f296c4486b5c57f8b29a4ce5a78cf", func := "worldmint/worldmintlaw22.EscrowRuns", spec := "escrowRuns", inPlace := ["internal/bytealg.IndexByteString"], unfollowed := true, recurses := true, named := ["worldmint/lexer.kinds", "math/bits.divideError", "math/bits.overflowError"], plainKeys := false, apart := false, laid := [("worldmint/lexer.kinds", laid_worldmint_lexer_kinds)] }
def EscrowRunsSaid : Prop := escrowRunsRow.holds Tryz.pinned (OpenSpec.ofChange escrowRunsSpec)

/-- ITS FALSE NEIGHBOUR: 'it returns false'. Refute it at one input. -/
def escrowRunsWrong : ChangeSpec := { name := "escrowRuns", fn := fun _ => fun
  | [d1, d2, d3] => { results := [.lit (.bool false)], args := [d1, d2, d3] }
  | _ => none }
def EscrowRunsWrongFalsely : Prop := escrowRunsRow.holds Tryz.pinned (OpenSpec.ofChange escrowRunsWrong)

/-- 'worldmintlaw22.EscrowRepeats': WHATEVER THE INPUT: true; the input reads as it did. -/
def escrowRepeatsSpec : ChangeSpec := { name := "escrowRepeats", fn := fun _ => fun
  | [d1, d2, d3, d4] => { results := [.lit (.bool true)], args := [d1, d2, d3, d4] }
  | _ => none }
def escrowRepeatsRow : OpenClaim := { program := "ytlgpgjdggilkgaagreatdoor", sum := "d664df3472923aae5a12906d352d9419304f296c4486b5c57f8b29a4ce5a78cf", func := "worldmint/worldmintlaw22.EscrowRepeats", spec := "escrowRepeats", inPlace := ["internal/bytealg.IndexByteString", "maps.clone"], unfollowed := true, recurses := true, named := ["worldmint/lexer.kinds", "math/bits.divideError", "math/bits.overflowError"], plainKeys := false, apart := false, laid := [("worldmint/lexer.kinds", laid_worldmint_lexer_kinds)] }
def EscrowRepeatsSaid : Prop := escrowRepeatsRow.holds Tryz.pinned (OpenSpec.ofChange escrowRepeatsSpec)

/-- ITS FALSE NEIGHBOUR: 'it returns false'. Refute it at one input. -/
def escrowRepeatsWrong : ChangeSpec := { name := "escrowRepeats", fn := fun _ => fun
  | [d1, d2, d3, d4] => { results := [.lit (.bool false)], args := [d1, d2, d3, d4] }
  | _ => none }
def EscrowRepeatsWrongFalsely : Prop := escrowRepeatsRow.holds Tryz.pinned (OpenSpec.ofChange escrowRepeatsWrong)

/-- 'worldmintlaw22.EscrowCopies': WHATEVER THE INPUT: true; the input reads as it did. -/
def escrowCopiesSpec : ChangeSpec := { name := "escrowCopies", fn := fun _ => fun
  | [d1, d2, d3, d4] => { results := [.lit (.bool true)], args := [d1, d2, d3, d4] }
  | _ => none }
def escrowCopiesRow : OpenClaim := { program := "ytlgpgjdggilkgaagreatdoor", sum := "d664df3472923aae5a12906d352d9419304f296c4486b5c57f8b29a4ce5a78cf", func := "worldmint/worldmintlaw22.EscrowCopies", spec := "escrowCopies", inPlace := ["internal/bytealg.IndexByteString", "maps.clone"], unfollowed := true, recurses := true, named := ["worldmint/lexer.kinds", "math/bits.divideError", "math/bits.overflowError"], plainKeys := false, apart := false, laid := [("worldmint/lexer.kinds", laid_worldmint_lexer_kinds)] }
def EscrowCopiesSaid : Prop := escrowCopiesRow.holds Tryz.pinned (OpenSpec.ofChange escrowCopiesSpec)

/-- ITS FALSE NEIGHBOUR: 'it returns false'. Refute it at one input. -/
def escrowCopiesWrong : ChangeSpec := { name := "escrowCopies", fn := fun _ => fun
  | [d1, d2, d3, d4] => { results := [.lit (.bool false)], args := [d1, d2, d3, d4] }
  | _ => none }
def EscrowCopiesWrongFalsely : Prop := escrowCopiesRow.holds Tryz.pinned (OpenSpec.ofChange escrowCopiesWrong)

/-- 'worldmintlaw22.EscrowOrigins': WHATEVER THE INPUT: true; the input reads as it did. -/
def escrowOriginsSpec : ChangeSpec := { name := "escrowOrigins", fn := fun _ => fun
  | [d1, d2, d3] => { results := [.lit (.bool true)], args := [d1, d2, d3] }
  | _ => none }
def escrowOriginsRow : OpenClaim := { program := "ytlgpgjdggilkgaagreatdoor", sum := "d664df3472923aae5a12906d352d9419304f296c4486b5c57f8b29a4ce5a78cf", func := "worldmint/worldmintlaw22.EscrowOrigins", spec := "escrowOrigins", inPlace := ["internal/bytealg.IndexByteString"], unfollowed := true, recurses := true, named := ["worldmint/lexer.kinds", "math/bits.divideError", "math/bits.overflowError"], plainKeys := false, apart := false, laid := [("worldmint/lexer.kinds", laid_worldmint_lexer_kinds)] }
def EscrowOriginsSaid : Prop := escrowOriginsRow.holds Tryz.pinned (OpenSpec.ofChange escrowOriginsSpec)

/-- ITS FALSE NEIGHBOUR: 'it returns false'. Refute it at one input. -/
def escrowOriginsWrong : ChangeSpec := { name := "escrowOrigins", fn := fun _ => fun
  | [d1, d2, d3] => { results := [.lit (.bool false)], args := [d1, d2, d3] }
  | _ => none }
def EscrowOriginsWrongFalsely : Prop := escrowOriginsRow.holds Tryz.pinned (OpenSpec.ofChange escrowOriginsWrong)

/- THE SECOND FORM. 'bulk': how many values and letters a reading holds, each counted each time it is reached (what is shared counts as often as it is met; a slice's spare places count too). A statement '..UptoSaid' is the law's where the arguments, and the package variables that the reading takes, are together of bulk at most 1048576: NARROWER than '..Said'. Prove '..Said' where nothing that the law and all that it calls make is longer than what came in: it says more and counts as full. Else prove '..UptoSaid'. A law counts once. -/
mutual
def uptoBulk {H : Type} : DataW H → Nat
  | .lit (.string bytes) => bytes.length + 1
  | .lit _ => 1
  | .nil => 1
  | .ptr d => uptoBulk d + 1
  | .slice elems spare => uptoBulkAll elems + uptoBulkAll spare + 1
  | .agg parts => uptoBulkAll parts + 1
  | .iface _ d => uptoBulk d + 1
  | .map entries => uptoBulkEntries entries + 1
  | .held _ => 1
def uptoBulkAll {H : Type} : List (DataW H) → Nat
  | [] => 0
  | d :: r => uptoBulk d + uptoBulkAll r
def uptoBulkEntries {H : Type} : List (Lit × DataW H) → Nat
  | [] => 0
  | x :: r => uptoBulkEntry x + uptoBulkEntries r
def uptoBulkEntry {H : Type} : Lit × DataW H → Nat
  | (.string bytes, d) => bytes.length + uptoBulk d + 1
  | (_, d) => uptoBulk d + 1
 end
def uptoSmall : (H : Type) → List (DataW H) → Bool := fun _ ds => decide (uptoBulkAll ds ≤ 1048576)
def OpenSpec.upto (s : _root_.Go.ChangeSpec) : _root_.Go.OpenSpec := { _root_.Go.OpenSpec.ofChange s with cond := some uptoSmall }

/-- 'worldmintlaw22.EscrowConserves', WHERE WHAT IT READS IS OF BULK AT MOST 1048576: true; the input reads as it did. -/
def escrowConservesUptoRow : OpenClaim := { program := "ytlgpgjdggilkgaagreatdoor", sum := "d664df3472923aae5a12906d352d9419304f296c4486b5c57f8b29a4ce5a78cf", func := "worldmint/worldmintlaw22.EscrowConserves", spec := "escrowConserves", inPlace := ["internal/bytealg.IndexByteString"], unfollowed := true, recurses := true, named := ["worldmint/lexer.kinds", "math/bits.divideError", "math/bits.overflowError"], plainKeys := false, apart := false, laid := [("worldmint/lexer.kinds", laid_worldmint_lexer_kinds)], narrowed := true }
def EscrowConservesUptoSaid : Prop := escrowConservesUptoRow.holds Tryz.pinned (OpenSpec.upto escrowConservesSpec)

/-- 'worldmintlaw22.EscrowTogether', WHERE WHAT IT READS IS OF BULK AT MOST 1048576: true; the input reads as it did. -/
def escrowTogetherUptoRow : OpenClaim := { program := "ytlgpgjdggilkgaagreatdoor", sum := "d664df3472923aae5a12906d352d9419304f296c4486b5c57f8b29a4ce5a78cf", func := "worldmint/worldmintlaw22.EscrowTogether", spec := "escrowTogether", inPlace := ["internal/bytealg.IndexByteString"], unfollowed := true, recurses := true, named := ["worldmint/lexer.kinds", "math/bits.divideError", "math/bits.overflowError"], plainKeys := false, apart := false, laid := [("worldmint/lexer.kinds", laid_worldmint_lexer_kinds)], narrowed := true }
def EscrowTogetherUptoSaid : Prop := escrowTogetherUptoRow.holds Tryz.pinned (OpenSpec.upto escrowTogetherSpec)

/-- 'worldmintlaw22.EscrowDeadline', WHERE WHAT IT READS IS OF BULK AT MOST 1048576: true; the input reads as it did. -/
def escrowDeadlineUptoRow : OpenClaim := { program := "ytlgpgjdggilkgaagreatdoor", sum := "d664df3472923aae5a12906d352d9419304f296c4486b5c57f8b29a4ce5a78cf", func := "worldmint/worldmintlaw22.EscrowDeadline", spec := "escrowDeadline", inPlace := ["internal/bytealg.IndexByteString"], unfollowed := true, recurses := true, named := ["worldmint/lexer.kinds", "math/bits.divideError", "math/bits.overflowError"], plainKeys := false, apart := false, laid := [("worldmint/lexer.kinds", laid_worldmint_lexer_kinds)], narrowed := true }
def EscrowDeadlineUptoSaid : Prop := escrowDeadlineUptoRow.holds Tryz.pinned (OpenSpec.upto escrowDeadlineSpec)

/-- 'worldmintlaw22.EscrowRuns', WHERE WHAT IT READS IS OF BULK AT MOST 1048576: true; the input reads as it did. -/
def escrowRunsUptoRow : OpenClaim := { program := "ytlgpgjdggilkgaagreatdoor", sum := "d664df3472923aae5a12906d352d9419304f296c4486b5c57f8b29a4ce5a78cf", func := "worldmint/worldmintlaw22.EscrowRuns", spec := "escrowRuns", inPlace := ["internal/bytealg.IndexByteString"], unfollowed := true, recurses := true, named := ["worldmint/lexer.kinds", "math/bits.divideError", "math/bits.overflowError"], plainKeys := false, apart := false, laid := [("worldmint/lexer.kinds", laid_worldmint_lexer_kinds)], narrowed := true }
def EscrowRunsUptoSaid : Prop := escrowRunsUptoRow.holds Tryz.pinned (OpenSpec.upto escrowRunsSpec)

/-- 'worldmintlaw22.EscrowRepeats', WHERE WHAT IT READS IS OF BULK AT MOST 1048576: true; the input reads as it did. -/
def escrowRepeatsUptoRow : OpenClaim := { program := "ytlgpgjdggilkgaagreatdoor", sum := "d664df3472923aae5a12906d352d9419304f296c4486b5c57f8b29a4ce5a78cf", func := "worldmint/worldmintlaw22.EscrowRepeats", spec := "escrowRepeats", inPlace := ["internal/bytealg.IndexByteString", "maps.clone"], unfollowed := true, recurses := true, named := ["worldmint/lexer.kinds", "math/bits.divideError", "math/bits.overflowError"], plainKeys := false, apart := false, laid := [("worldmint/lexer.kinds", laid_worldmint_lexer_kinds)], narrowed := true }
def EscrowRepeatsUptoSaid : Prop := escrowRepeatsUptoRow.holds Tryz.pinned (OpenSpec.upto escrowRepeatsSpec)

/-- 'worldmintlaw22.EscrowCopies', WHERE WHAT IT READS IS OF BULK AT MOST 1048576: true; the input reads as it did. -/
def escrowCopiesUptoRow : OpenClaim := { program := "ytlgpgjdggilkgaagreatdoor", sum := "d664df3472923aae5a12906d352d9419304f296c4486b5c57f8b29a4ce5a78cf", func := "worldmint/worldmintlaw22.EscrowCopies", spec := "escrowCopies", inPlace := ["internal/bytealg.IndexByteString", "maps.clone"], unfollowed := true, recurses := true, named := ["worldmint/lexer.kinds", "math/bits.divideError", "math/bits.overflowError"], plainKeys := false, apart := false, laid := [("worldmint/lexer.kinds", laid_worldmint_lexer_kinds)], narrowed := true }
def EscrowCopiesUptoSaid : Prop := escrowCopiesUptoRow.holds Tryz.pinned (OpenSpec.upto escrowCopiesSpec)

/-- 'worldmintlaw22.EscrowOrigins', WHERE WHAT IT READS IS OF BULK AT MOST 1048576: true; the input reads as it did. -/
def escrowOriginsUptoRow : OpenClaim := { program := "ytlgpgjdggilkgaagreatdoor", sum := "d664df3472923aae5a12906d352d9419304f296c4486b5c57f8b29a4ce5a78cf", func := "worldmint/worldmintlaw22.EscrowOrigins", spec := "escrowOrigins", inPlace := ["internal/bytealg.IndexByteString"], unfollowed := true, recurses := true, named := ["worldmint/lexer.kinds", "math/bits.divideError", "math/bits.overflowError"], plainKeys := false, apart := false, laid := [("worldmint/lexer.kinds", laid_worldmint_lexer_kinds)], narrowed := true }
def EscrowOriginsUptoSaid : Prop := escrowOriginsUptoRow.holds Tryz.pinned (OpenSpec.upto escrowOriginsSpec)

end Rows
end Go.Proofs.YtlgpgjdggilkgaaGreatDoor
