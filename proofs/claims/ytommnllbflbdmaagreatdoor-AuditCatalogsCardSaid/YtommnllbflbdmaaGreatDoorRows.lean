/-
  NARROWER THAN 'FOR EVERY INPUT', by the rows' own cells (each row's printed sentence says how): AuditLedgers: laid · AuditTotals: laid · AuditAccepts: laid · AuditFinds: laid · AuditCatalogs: laid · AuditImports: laid.
  DERIVED. THE GIVEN ROWS OF THIS SEAT. 6 by the template 'for every input the law returns true; each argument reads behind the call as it read before'; 0 by the template 'total and deterministic' (their statements: YtommnllbflbdmaaGreatDoorTotals.lean).
  GIVEN WITH THE SEED: the statements are not yours to turn. If you find one false, say at which input.
  Laid BY PROGRAM, IN A SANDBOX (cutbox-rows.mjs): the forced cells as the released guide's own fill.sh prints them over the translation e23a4c3140b20448… (all of the seat's roots in one cut). By AI agents, Wed Nov 11 2026. No macro, syntax, notation, axiom, sorry.
-/
import Derived.Test.YtommnllbflbdmaaGreatDoorChecked
import GoSem.Claim
import GoSem.ClaimJoined
import GoSem.ClaimMapViews
import Derived.JoinedTies
import Derived.KernelRfl
namespace Go.Proofs.YtommnllbflbdmaaGreatDoor
/- THE CELL 'sum', in the pinned program and in every row, IS THE sha256 OF THE DUMP (.gsa) THAT YtommnllbflbdmaaGreatDoorProg.lean LOADS. Nothing in Lean hashes anything: it is a label: what it is worth is what the hold of that sum in a sandbox is worth. -/
noncomputable def Tryz.pinned : Pinned := { name := "ytommnllbflbdmaagreatdoor", sum := "e23a4c3140b20448a73bf3c2f83d97de7ce752cbff45a7238e557736e2b81d2e", checked := Tryz.checked }
namespace Rows
def none {H : Type} : Left H := { results := [], args := [] }

/- WHAT THE LISTED PACKAGE-LEVEL VARIABLES READ AS WHEN THE CALL BEGINS. Each datum BY PROGRAM (the guide's laid-datum.mjs) off the statement by which the dump's own 'gosem.cut.vars' lays the variable. In a bare row this is a premise. The card (YtommnllbflbdmaaGreatDoorCards.lean) ties it to the program's text. -/
def laid_worldmint_lexer_kinds {H : Type} : DataW H := .agg [.lit (.int .u8 0), .lit (.int .u8 0), .lit (.int .u8 0), .lit (.int .u8 0), .lit (.int .u8 0), .lit (.int .u8 0), .lit (.int .u8 0), .lit (.int .u8 0), .lit (.int .u8 0), .lit (.int .u8 1), .lit (.int .u8 1), .lit (.int .u8 0), .lit (.int .u8 0), .lit (.int .u8 0), .lit (.int .u8 0), .lit (.int .u8 0), .lit (.int .u8 0), .lit (.int .u8 0), .lit (.int .u8 0), .lit (.int .u8 0), .lit (.int .u8 0), .lit (.int .u8 0), .lit (.int .u8 0), .lit (.int .u8 0), .lit (.int .u8 0), .lit (.int .u8 0), .lit (.int .u8 0), .lit (.int .u8 0), .lit (.int .u8 0), .lit (.int .u8 0), .lit (.int .u8 0), .lit (.int .u8 0), .lit (.int .u8 1), .lit (.int .u8 0), .lit (.int .u8 0), .lit (.int .u8 2), .lit (.int .u8 0), .lit (.int .u8 0), .lit (.int .u8 0), .lit (.int .u8 0), .lit (.int .u8 7), .lit (.int .u8 7), .lit (.int .u8 0), .lit (.int .u8 7), .lit (.int .u8 7), .lit (.int .u8 6), .lit (.int .u8 7), .lit (.int .u8 0), .lit (.int .u8 4), .lit (.int .u8 4), .lit (.int .u8 4), .lit (.int .u8 4), .lit (.int .u8 4), .lit (.int .u8 4), .lit (.int .u8 4), .lit (.int .u8 4), .lit (.int .u8 4), .lit (.int .u8 4), .lit (.int .u8 7), .lit (.int .u8 7), .lit (.int .u8 7), .lit (.int .u8 7), .lit (.int .u8 7), .lit (.int .u8 0), .lit (.int .u8 0), .lit (.int .u8 0), .lit (.int .u8 0), .lit (.int .u8 0), .lit (.int .u8 0), .lit (.int .u8 0), .lit (.int .u8 0), .lit (.int .u8 0), .lit (.int .u8 0), .lit (.int .u8 0), .lit (.int .u8 0), .lit (.int .u8 0), .lit (.int .u8 0), .lit (.int .u8 0), .lit (.int .u8 0), .lit (.int .u8 0), .lit (.int .u8 0), .lit (.int .u8 0), .lit (.int .u8 0), .lit (.int .u8 0), .lit (.int .u8 0), .lit (.int .u8 0), .lit (.int .u8 0), .lit (.int .u8 0), .lit (.int .u8 0), .lit (.int .u8 0), .lit (.int .u8 0), .lit (.int .u8 0), .lit (.int .u8 0), .lit (.int .u8 0), .lit (.int .u8 0), .lit (.int .u8 5), .lit (.int .u8 0), .lit (.int .u8 3), .lit (.int .u8 3), .lit (.int .u8 3), .lit (.int .u8 3), .lit (.int .u8 3), .lit (.int .u8 3), .lit (.int .u8 3), .lit (.int .u8 3), .lit (.int .u8 3), .lit (.int .u8 3), .lit (.int .u8 3), .lit (.int .u8 3), .lit (.int .u8 3), .lit (.int .u8 3), .lit (.int .u8 3), .lit (.int .u8 3), .lit (.int .u8 3), .lit (.int .u8 3), .lit (.int .u8 3), .lit (.int .u8 3), .lit (.int .u8 3), .lit (.int .u8 3), .lit (.int .u8 3), .lit (.int .u8 3), .lit (.int .u8 3), .lit (.int .u8 3), .lit (.int .u8 7), .lit (.int .u8 0), .lit (.int .u8 7), .lit (.int .u8 0), .lit (.int .u8 0)]

/-- 'worldmintlaw39.AuditLedgers': WHATEVER THE INPUT: true; the input reads as it did. -/
def auditLedgersSpec : ChangeSpec := { name := "auditLedgers", fn := fun _ => fun
  | [d1, d2, d3, d4, d5] => { results := [.lit (.bool true)], args := [d1, d2, d3, d4, d5] }
  | _ => none }
def auditLedgersRow : OpenClaim := { program := "ytommnllbflbdmaagreatdoor", sum := "e23a4c3140b20448a73bf3c2f83d97de7ce752cbff45a7238e557736e2b81d2e", func := "worldmint/worldmintlaw39.AuditLedgers", spec := "auditLedgers", inPlace := ["internal/bytealg.IndexByteString"], unfollowed := true, recurses := true, named := ["math/bits.divideError", "math/bits.overflowError", "worldmint/lexer.kinds"], plainKeys := false, apart := false, laid := [("worldmint/lexer.kinds", laid_worldmint_lexer_kinds)] }
def AuditLedgersSaid : Prop := auditLedgersRow.holds Tryz.pinned (OpenSpec.ofChange auditLedgersSpec)

/-- ITS FALSE NEIGHBOUR: 'it returns false'. Refute it at one input. -/
def auditLedgersWrong : ChangeSpec := { name := "auditLedgers", fn := fun _ => fun
  | [d1, d2, d3, d4, d5] => { results := [.lit (.bool false)], args := [d1, d2, d3, d4, d5] }
  | _ => none }
def AuditLedgersWrongFalsely : Prop := auditLedgersRow.holds Tryz.pinned (OpenSpec.ofChange auditLedgersWrong)

/-- 'worldmintlaw39.AuditTotals': WHATEVER THE INPUT: true; the input reads as it did. -/
def auditTotalsSpec : ChangeSpec := { name := "auditTotals", fn := fun _ => fun
  | [d1, d2, d3, d4, d5] => { results := [.lit (.bool true)], args := [d1, d2, d3, d4, d5] }
  | _ => none }
def auditTotalsRow : OpenClaim := { program := "ytommnllbflbdmaagreatdoor", sum := "e23a4c3140b20448a73bf3c2f83d97de7ce752cbff45a7238e557736e2b81d2e", func := "worldmint/worldmintlaw39.AuditTotals", spec := "auditTotals", inPlace := ["internal/bytealg.IndexByteString"], unfollowed := true, recurses := true, named := ["worldmint/lexer.kinds", "math/bits.divideError", "math/bits.overflowError"], plainKeys := false, apart := false, laid := [("worldmint/lexer.kinds", laid_worldmint_lexer_kinds)] }
def AuditTotalsSaid : Prop := auditTotalsRow.holds Tryz.pinned (OpenSpec.ofChange auditTotalsSpec)

/-- ITS FALSE NEIGHBOUR: 'it returns false'. Refute it at one input. -/
def auditTotalsWrong : ChangeSpec := { name := "auditTotals", fn := fun _ => fun
  | [d1, d2, d3, d4, d5] => { results := [.lit (.bool false)], args := [d1, d2, d3, d4, d5] }
  | _ => none }
def AuditTotalsWrongFalsely : Prop := auditTotalsRow.holds Tryz.pinned (OpenSpec.ofChange auditTotalsWrong)

/-- 'worldmintlaw39.AuditAccepts': WHATEVER THE INPUT: true; the input reads as it did. -/
def auditAcceptsSpec : ChangeSpec := { name := "auditAccepts", fn := fun _ => fun
  | [d1, d2] => { results := [.lit (.bool true)], args := [d1, d2] }
  | _ => none }
def auditAcceptsRow : OpenClaim := { program := "ytommnllbflbdmaagreatdoor", sum := "e23a4c3140b20448a73bf3c2f83d97de7ce752cbff45a7238e557736e2b81d2e", func := "worldmint/worldmintlaw39.AuditAccepts", spec := "auditAccepts", inPlace := ["internal/bytealg.IndexByteString"], unfollowed := true, recurses := true, named := ["worldmint/lexer.kinds", "math/bits.divideError", "math/bits.overflowError"], plainKeys := false, apart := false, laid := [("worldmint/lexer.kinds", laid_worldmint_lexer_kinds)] }
def AuditAcceptsSaid : Prop := auditAcceptsRow.holds Tryz.pinned (OpenSpec.ofChange auditAcceptsSpec)

/-- ITS FALSE NEIGHBOUR: 'it returns false'. Refute it at one input. -/
def auditAcceptsWrong : ChangeSpec := { name := "auditAccepts", fn := fun _ => fun
  | [d1, d2] => { results := [.lit (.bool false)], args := [d1, d2] }
  | _ => none }
def AuditAcceptsWrongFalsely : Prop := auditAcceptsRow.holds Tryz.pinned (OpenSpec.ofChange auditAcceptsWrong)

/-- 'worldmintlaw39.AuditFinds': WHATEVER THE INPUT: true; the input reads as it did. -/
def auditFindsSpec : ChangeSpec := { name := "auditFinds", fn := fun _ => fun
  | [d1, d2, d3, d4, d5] => { results := [.lit (.bool true)], args := [d1, d2, d3, d4, d5] }
  | _ => none }
def auditFindsRow : OpenClaim := { program := "ytommnllbflbdmaagreatdoor", sum := "e23a4c3140b20448a73bf3c2f83d97de7ce752cbff45a7238e557736e2b81d2e", func := "worldmint/worldmintlaw39.AuditFinds", spec := "auditFinds", inPlace := ["internal/bytealg.IndexByteString"], unfollowed := true, recurses := true, named := ["worldmint/lexer.kinds", "math/bits.divideError", "math/bits.overflowError"], plainKeys := false, apart := false, laid := [("worldmint/lexer.kinds", laid_worldmint_lexer_kinds)] }
def AuditFindsSaid : Prop := auditFindsRow.holds Tryz.pinned (OpenSpec.ofChange auditFindsSpec)

/-- ITS FALSE NEIGHBOUR: 'it returns false'. Refute it at one input. -/
def auditFindsWrong : ChangeSpec := { name := "auditFinds", fn := fun _ => fun
  | [d1, d2, d3, d4, d5] => { results := [.lit (.bool false)], args := [d1, d2, d3, d4, d5] }
  | _ => none }
def AuditFindsWrongFalsely : Prop := auditFindsRow.holds Tryz.pinned (OpenSpec.ofChange auditFindsWrong)

/-- 'worldmintlaw39.AuditCatalogs': WHATEVER THE INPUT: true; the input reads as it did. -/
def auditCatalogsSpec : ChangeSpec := { name := "auditCatalogs", fn := fun _ => fun
  | [d1, d2] => { results := [.lit (.bool true)], args := [d1, d2] }
  | _ => none }
def auditCatalogsRow : OpenClaim := { program := "ytommnllbflbdmaagreatdoor", sum := "e23a4c3140b20448a73bf3c2f83d97de7ce752cbff45a7238e557736e2b81d2e", func := "worldmint/worldmintlaw39.AuditCatalogs", spec := "auditCatalogs", inPlace := ["internal/bytealg.IndexByteString"], unfollowed := true, recurses := true, named := ["worldmint/lexer.kinds", "math/bits.divideError", "math/bits.overflowError"], plainKeys := false, apart := false, laid := [("worldmint/lexer.kinds", laid_worldmint_lexer_kinds)] }
def AuditCatalogsSaid : Prop := auditCatalogsRow.holds Tryz.pinned (OpenSpec.ofChange auditCatalogsSpec)

/-- ITS FALSE NEIGHBOUR: 'it returns false'. Refute it at one input. -/
def auditCatalogsWrong : ChangeSpec := { name := "auditCatalogs", fn := fun _ => fun
  | [d1, d2] => { results := [.lit (.bool false)], args := [d1, d2] }
  | _ => none }
def AuditCatalogsWrongFalsely : Prop := auditCatalogsRow.holds Tryz.pinned (OpenSpec.ofChange auditCatalogsWrong)

/-- 'worldmintlaw39.AuditImports': WHATEVER THE INPUT: true; the input reads as it did. -/
def auditImportsSpec : ChangeSpec := { name := "auditImports", fn := fun _ => fun
  | [d1, d2, d3, d4, d5, d6] => { results := [.lit (.bool true)], args := [d1, d2, d3, d4, d5, d6] }
  | _ => none }
def auditImportsRow : OpenClaim := { program := "ytommnllbflbdmaagreatdoor", sum := "e23a4c3140b20448a73bf3c2f83d97de7ce752cbff45a7238e557736e2b81d2e", func := "worldmint/worldmintlaw39.AuditImports", spec := "auditImports", inPlace := ["internal/bytealg.IndexByteString"], unfollowed := true, recurses := true, named := ["math/bits.divideError", "math/bits.overflowError", "worldmint/lexer.kinds"], plainKeys := false, apart := false, laid := [("worldmint/lexer.kinds", laid_worldmint_lexer_kinds)] }
def AuditImportsSaid : Prop := auditImportsRow.holds Tryz.pinned (OpenSpec.ofChange auditImportsSpec)

/-- ITS FALSE NEIGHBOUR: 'it returns false'. Refute it at one input. -/
def auditImportsWrong : ChangeSpec := { name := "auditImports", fn := fun _ => fun
  | [d1, d2, d3, d4, d5, d6] => { results := [.lit (.bool false)], args := [d1, d2, d3, d4, d5, d6] }
  | _ => none }
def AuditImportsWrongFalsely : Prop := auditImportsRow.holds Tryz.pinned (OpenSpec.ofChange auditImportsWrong)

/- THE SECOND FORM. 'bulk': how many values and letters a reading holds, each counted each time it is reached (what is shared counts as often as it is met; a slice's spare places count too). A statement '..UptoSaid' is the law's where the arguments, and the package variables that the reading takes, are together of bulk at most 1048576: NARROWER than '..Said'. Prove '..Said' where nothing that the law and all that it calls make is longer than what came in: it says more and counts as full. Else prove '..UptoSaid'. A law counts once. -/
mutual
def uptoBulk {H : Type} : DataW H → Nat
  | .lit (.string bytes) => bytes.length + 1
  | .lit _ => 1
  | .nil => 1
  | .ptr d => uptoBulk d + 1
  | .slice elems spare => uptoBulkAll elems + uptoBulkAll spare + 1
  | .agg parts => uptoBulkAll parts + 1
  | .iface _ d => uptoBulk d + 1
  | .map entries => uptoBulkEntries entries + 1
  | .held _ => 1
def uptoBulkAll {H : Type} : List (DataW H) → Nat
  | [] => 0
  | d :: r => uptoBulk d + uptoBulkAll r
def uptoBulkEntries {H : Type} : List (Lit × DataW H) → Nat
  | [] => 0
  | x :: r => uptoBulkEntry x + uptoBulkEntries r
def uptoBulkEntry {H : Type} : Lit × DataW H → Nat
  | (.string bytes, d) => bytes.length + uptoBulk d + 1
  | (_, d) => uptoBulk d + 1
 end
def uptoSmall : (H : Type) → List (DataW H) → Bool := fun _ ds => decide (uptoBulkAll ds ≤ 1048576)
def OpenSpec.upto (s : _root_.Go.ChangeSpec) : _root_.Go.OpenSpec := { _root_.Go.OpenSpec.ofChange s with cond := some uptoSmall }

/-- 'worldmintlaw39.AuditLedgers', WHERE WHAT IT READS IS OF BULK AT MOST 1048576: true; the input reads as it did. -/
def auditLedgersUptoRow : OpenClaim := { program := "ytommnllbflbdmaagreatdoor", sum := "e23a4c3140b20448a73bf3c2f83d97de7ce752cbff45a7238e557736e2b81d2e", func := "worldmint/worldmintlaw39.AuditLedgers", spec := "auditLedgers", inPlace := ["internal/bytealg.IndexByteString"], unfollowed := true, recurses := true, named := ["math/bits.divideError", "math/bits.overflowError", "worldmint/lexer.kinds"], plainKeys := false, apart := false, laid := [("worldmint/lexer.kinds", laid_worldmint_lexer_kinds)], narrowed := true }
def AuditLedgersUptoSaid : Prop := auditLedgersUptoRow.holds Tryz.pinned (OpenSpec.upto auditLedgersSpec)

/-- 'worldmintlaw39.AuditTotals', WHERE WHAT IT READS IS OF BULK AT MOST 1048576: true; the input reads as it did. -/
def auditTotalsUptoRow : OpenClaim := { program := "ytommnllbflbdmaagreatdoor", sum := "e23a4c3140b20448a73bf3c2f83d97de7ce752cbff45a7238e557736e2b81d2e", func := "worldmint/worldmintlaw39.AuditTotals", spec := "auditTotals", inPlace := ["internal/bytealg.IndexByteString"], unfollowed := true, recurses := true, named := ["worldmint/lexer.kinds", "math/bits.divideError", "math/bits.overflowError"], plainKeys := false, apart := false, laid := [("worldmint/lexer.kinds", laid_worldmint_lexer_kinds)], narrowed := true }
def AuditTotalsUptoSaid : Prop := auditTotalsUptoRow.holds Tryz.pinned (OpenSpec.upto auditTotalsSpec)

/-- 'worldmintlaw39.AuditAccepts', WHERE WHAT IT READS IS OF BULK AT MOST 1048576: true; the input reads as it did. -/
def auditAcceptsUptoRow : OpenClaim := { program := "ytommnllbflbdmaagreatdoor", sum := "e23a4c3140b20448a73bf3c2f83d97de7ce752cbff45a7238e557736e2b81d2e", func := "worldmint/worldmintlaw39.AuditAccepts", spec := "auditAccepts", inPlace := ["internal/bytealg.IndexByteString"], unfollowed := true, recurses := true, named := ["worldmint/lexer.kinds", "math/bits.divideError", "math/bits.overflowError"], plainKeys := false, apart := false, laid := [("worldmint/lexer.kinds", laid_worldmint_lexer_kinds)], narrowed := true }
def AuditAcceptsUptoSaid : Prop := auditAcceptsUptoRow.holds Tryz.pinned (OpenSpec.upto auditAcceptsSpec)

/-- 'worldmintlaw39.AuditFinds', WHERE WHAT IT READS IS OF BULK AT MOST 1048576: true; the input reads as it did. -/
def auditFindsUptoRow : OpenClaim := { program := "ytommnllbflbdmaagreatdoor", sum := "e23a4c3140b20448a73bf3c2f83d97de7ce752cbff45a7238e557736e2b81d2e", func := "worldmint/worldmintlaw39.AuditFinds", spec := "auditFinds", inPlace := ["internal/bytealg.IndexByteString"], unfollowed := true, recurses := true, named := ["worldmint/lexer.kinds", "math/bits.divideError", "math/bits.overflowError"], plainKeys := false, apart := false, laid := [("worldmint/lexer.kinds", laid_worldmint_lexer_kinds)], narrowed := true }
def AuditFindsUptoSaid : Prop := auditFindsUptoRow.holds Tryz.pinned (OpenSpec.upto auditFindsSpec)

/-- 'worldmintlaw39.AuditCatalogs', WHERE WHAT IT READS IS OF BULK AT MOST 1048576: true; the input reads as it did. -/
def auditCatalogsUptoRow : OpenClaim := { program := "ytommnllbflbdmaagreatdoor", sum := "e23a4c3140b20448a73bf3c2f83d97de7ce752cbff45a7238e557736e2b81d2e", func := "worldmint/worldmintlaw39.AuditCatalogs", spec := "auditCatalogs", inPlace := ["internal/bytealg.IndexByteString"], unfollowed := true, recurses := true, named := ["worldmint/lexer.kinds", "math/bits.divideError", "math/bits.overflowError"], plainKeys := false, apart := false, laid := [("worldmint/lexer.kinds", laid_worldmint_lexer_kinds)], narrowed := true }
def AuditCatalogsUptoSaid : Prop := auditCatalogsUptoRow.holds Tryz.pinned (OpenSpec.upto auditCatalogsSpec)

/-- 'worldmintlaw39.AuditImports', WHERE WHAT IT READS IS OF BULK AT MOST 1048576: true; the input reads as it did. -/
def auditImportsUptoRow : OpenClaim := { program := "ytommnllbflbdmaagreatdoor", sum := "e23a4c3140b20448a73bf3c2f83d97de7ce752cbff45a7238e557736e2b81d2e", func := "worldmint/worldmintlaw39.AuditImports", spec := "auditImports", inPlace := ["internal/bytealg.IndexByteString"], unfollowed := true, recurses := true, named := ["math/bits.divideError", "math/bits.overflowError", "worldmint/lexer.kinds"], plainKeys := false, apart := false, laid := [("worldmint/lexer.kinds", laid_worldmint_lexer_kinds)], narrowed := true }
def AuditImportsUptoSaid : Prop := auditImportsUptoRow.holds Tryz.pinned (OpenSpec.upto auditImportsSpec)

end Rows
end Go.Proofs.YtommnllbflbdmaaGreatDoor
