/-
  DERIVED. GIVEN WITH THE SEED: THE CARDS: each row of YtlgpgjdggilkgaaGreatDoorRows.lean that lists a variable, with what it lists TIED to the program's text (the seventh form; the later family's looks); each row that meets fmt, with fmt's text TOLD by the authors' own Lean function (tested against real Go, not proved from fmt's source: count such statements apart). THE CARD IS WHAT COUNTS. Prove the row's statement (the work); the ties are given (YtlgpgjdggilkgaaGreatDoorTie.lean); close each card by the builder's one call (the guide's Derived/Test/ToyasCard.lean, 'card_holds'). Laid BY PROGRAM, IN A SANDBOX (cutbox-door.mjs). By AI agents, Wed Nov 11 2026. No macro, syntax, notation, axiom, sorry.
-/
import Derived.Test.YtlgpgjdggilkgaaGreatDoorRows
import GoSem.ClaimSeven
namespace Go.Proofs.YtlgpgjdggilkgaaGreatDoor
namespace Rows

/-- THE TIED CARD OF 'worldmintlaw22.EscrowConserves'. -/
def escrowConservesCard : Claim7 := { stood := { row := escrowConservesRow, standIns := [], harness := (true, "330b38cdc88eef3d1651c866e603503e3bb25d4836d15ad165312409055a2da8"), looks := true }, kinds := [], alts := [], laidByText := true, laidKinds := [.data], laidTests := true, laidLooks := .later }
def EscrowConservesCardSaid : Prop := Claim7.holds Tryz.pinned (.plain (OpenSpec.ofChange escrowConservesSpec)) escrowConservesCard

/-- THE TIED CARD OF 'worldmintlaw22.EscrowTogether'. -/
def escrowTogetherCard : Claim7 := { stood := { row := escrowTogetherRow, standIns := [], harness := (true, "330b38cdc88eef3d1651c866e603503e3bb25d4836d15ad165312409055a2da8"), looks := true }, kinds := [], alts := [], laidByText := true, laidKinds := [.data], laidTests := true, laidLooks := .later }
def EscrowTogetherCardSaid : Prop := Claim7.holds Tryz.pinned (.plain (OpenSpec.ofChange escrowTogetherSpec)) escrowTogetherCard

/-- THE TIED CARD OF 'worldmintlaw22.EscrowDeadline'. -/
def escrowDeadlineCard : Claim7 := { stood := { row := escrowDeadlineRow, standIns := [], harness := (true, "330b38cdc88eef3d1651c866e603503e3bb25d4836d15ad165312409055a2da8"), looks := true }, kinds := [], alts := [], laidByText := true, laidKinds := [.data], laidTests := true, laidLooks := .later }
def EscrowDeadlineCardSaid : Prop := Claim7.holds Tryz.pinned (.plain (OpenSpec.ofChange escrowDeadlineSpec)) escrowDeadlineCard

/-- THE TIED CARD OF 'worldmintlaw22.EscrowRuns'. -/
def escrowRunsCard : Claim7 := { stood := { row := escrowRunsRow, standIns := [], harness := (true, "330b38cdc88eef3d1651c866e603503e3bb25d4836d15ad165312409055a2da8"), looks := true }, kinds := [], alts := [], laidByText := true, laidKinds := [.data], laidTests := true, laidLooks := .later }
def EscrowRunsCardSaid : Prop := Claim7.holds Tryz.pinned (.plain (OpenSpec.ofChange escrowRunsSpec)) escrowRunsCard

/-- THE TIED CARD OF 'worldmintlaw22.EscrowRepeats'. -/
def escrowRepeatsCard : Claim7 := { stood := { row := escrowRepeatsRow, standIns := [], harness := (true, "330b38cdc88eef3d1651c866e603503e3bb25d4836d15ad165312409055a2da8"), looks := true }, kinds := [], alts := [], laidByText := true, laidKinds := [.data], laidTests := true, laidLooks := .later }
def EscrowRepeatsCardSaid : Prop := Claim7.holds Tryz.pinned (.plain (OpenSpec.ofChange escrowRepeatsSpec)) escrowRepeatsCard

/-- THE TIED CARD OF 'worldmintlaw22.EscrowCopies'. -/
def escrowCopiesCard : Claim7 := { stood := { row := escrowCopiesRow, standIns := [], harness := (true, "330b38cdc88eef3d1651c866e603503e3bb25d4836d15ad165312409055a2da8"), looks := true }, kinds := [], alts := [], laidByText := true, laidKinds := [.data], laidTests := true, laidLooks := .later }
def EscrowCopiesCardSaid : Prop := Claim7.holds Tryz.pinned (.plain (OpenSpec.ofChange escrowCopiesSpec)) escrowCopiesCard

/-- THE TIED CARD OF 'worldmintlaw22.EscrowOrigins'. -/
def escrowOriginsCard : Claim7 := { stood := { row := escrowOriginsRow, standIns := [], harness := (true, "330b38cdc88eef3d1651c866e603503e3bb25d4836d15ad165312409055a2da8"), looks := true }, kinds := [], alts := [], laidByText := true, laidKinds := [.data], laidTests := true, laidLooks := .later }
def EscrowOriginsCardSaid : Prop := Claim7.holds Tryz.pinned (.plain (OpenSpec.ofChange escrowOriginsSpec)) escrowOriginsCard

/-- THE SECOND FORM's CARD OF 'worldmintlaw22.EscrowConserves'. -/
def escrowConservesUptoCard : Claim7 := { stood := { row := escrowConservesUptoRow, standIns := [], harness := (true, "330b38cdc88eef3d1651c866e603503e3bb25d4836d15ad165312409055a2da8"), looks := true }, kinds := [], alts := [], laidByText := true, laidKinds := [.data], laidTests := true, laidLooks := .later }
def EscrowConservesUptoCardSaid : Prop := Claim7.holds Tryz.pinned (.plain (OpenSpec.upto escrowConservesSpec)) escrowConservesUptoCard

/-- THE SECOND FORM's CARD OF 'worldmintlaw22.EscrowTogether'. -/
def escrowTogetherUptoCard : Claim7 := { stood := { row := escrowTogetherUptoRow, standIns := [], harness := (true, "330b38cdc88eef3d1651c866e603503e3bb25d4836d15ad165312409055a2da8"), looks := true }, kinds := [], alts := [], laidByText := true, laidKinds := [.data], laidTests := true, laidLooks := .later }
def EscrowTogetherUptoCardSaid : Prop := Claim7.holds Tryz.pinned (.plain (OpenSpec.upto escrowTogetherSpec)) escrowTogetherUptoCard

/-- THE SECOND FORM's CARD OF 'worldmintlaw22.EscrowDeadline'. -/
def escrowDeadlineUptoCard : Claim7 := { stood := { row := escrowDeadlineUptoRow, standIns := [], harness := (true, "330b38cdc88eef3d1651c866e603503e3bb25d4836d15ad165312409055a2da8"), looks := true }, kinds := [], alts := [], laidByText := true, laidKinds := [.data], laidTests := true, laidLooks := .later }
def EscrowDeadlineUptoCardSaid : Prop := Claim7.holds Tryz.pinned (.plain (OpenSpec.upto escrowDeadlineSpec)) escrowDeadlineUptoCard

/-- THE SECOND FORM's CARD OF 'worldmintlaw22.EscrowRuns'. -/
def escrowRunsUptoCard : Claim7 := { stood := { row := escrowRunsUptoRow, standIns := [], harness := (true, "330b38cdc88eef3d1651c866e603503e3bb25d4836d15ad165312409055a2da8"), looks := true }, kinds := [], alts := [], laidByText := true, laidKinds := [.data], laidTests := true, laidLooks := .later }
def EscrowRunsUptoCardSaid : Prop := Claim7.holds Tryz.pinned (.plain (OpenSpec.upto escrowRunsSpec)) escrowRunsUptoCard

/-- THE SECOND FORM's CARD OF 'worldmintlaw22.EscrowRepeats'. -/
def escrowRepeatsUptoCard : Claim7 := { stood := { row := escrowRepeatsUptoRow, standIns := [], harness := (true, "330b38cdc88eef3d1651c866e603503e3bb25d4836d15ad165312409055a2da8"), looks := true }, kinds := [], alts := [], laidByText := true, laidKinds := [.data], laidTests := true, laidLooks := .later }
def EscrowRepeatsUptoCardSaid : Prop := Claim7.holds Tryz.pinned (.plain (OpenSpec.upto escrowRepeatsSpec)) escrowRepeatsUptoCard

/-- THE SECOND FORM's CARD OF 'worldmintlaw22.EscrowCopies'. -/
def escrowCopiesUptoCard : Claim7 := { stood := { row := escrowCopiesUptoRow, standIns := [], harness := (true, "330b38cdc88eef3d1651c866e603503e3bb25d4836d15ad165312409055a2da8"), looks := true }, kinds := [], alts := [], laidByText := true, laidKinds := [.data], laidTests := true, laidLooks := .later }
def EscrowCopiesUptoCardSaid : Prop := Claim7.holds Tryz.pinned (.plain (OpenSpec.upto escrowCopiesSpec)) escrowCopiesUptoCard

/-- THE SECOND FORM's CARD OF 'worldmintlaw22.EscrowOrigins'. -/
def escrowOriginsUptoCard : Claim7 := { stood := { row := escrowOriginsUptoRow, standIns := [], harness := (true, "330b38cdc88eef3d1651c866e603503e3bb25d4836d15ad165312409055a2da8"), looks := true }, kinds := [], alts := [], laidByText := true, laidKinds := [.data], laidTests := true, laidLooks := .later }
def EscrowOriginsUptoCardSaid : Prop := Claim7.holds Tryz.pinned (.plain (OpenSpec.upto escrowOriginsSpec)) escrowOriginsUptoCard
end Rows
end Go.Proofs.YtlgpgjdggilkgaaGreatDoor
