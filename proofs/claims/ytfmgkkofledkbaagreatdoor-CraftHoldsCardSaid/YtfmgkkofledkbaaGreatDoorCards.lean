/-
  DERIVED. GIVEN WITH THE SEED: THE CARDS: each row of YtfmgkkofledkbaaGreatDoorRows.lean that lists a variable, with what it lists TIED to the program's text (the seventh form; the later family's looks); each row that meets fmt, with fmt's text TOLD by the authors' own Lean function (tested against real Go, not proved from fmt's source: count such statements apart). THE CARD IS WHAT COUNTS. Prove the row's statement (the work); the ties are given (YtfmgkkofledkbaaGreatDoorTie.lean); close each card by the builder's one call (the guide's Derived/Test/ToyasCard.lean, 'card_holds'). Laid BY PROGRAM, IN A SANDBOX (cutbox-door.mjs). By AI agents, Wed Nov 11 2026. No macro, syntax, notation, axiom, sorry.
-/
import Derived.Test.YtfmgkkofledkbaaGreatDoorRows
import GoSem.ClaimSeven
namespace Go.Proofs.YtfmgkkofledkbaaGreatDoor
namespace Rows

/-- THE TIED CARD OF 'worldmintlaw18.CraftLoots'. -/
def craftLootsCard : Claim7 := { stood := { row := craftLootsRow, standIns := [], harness := (true, "b0b1b5c118e6c71c2ce60b1f46d354eb23e09d283d0c5d5e355904ff5a0a3c54"), looks := true }, kinds := [], alts := [], laidByText := true, laidKinds := [.data, .data, .data, .data], laidTests := true, laidLooks := .later }
def CraftLootsCardSaid : Prop := Claim7.holds Tryz.pinned (.plain (OpenSpec.ofChange craftLootsSpec)) craftLootsCard

/-- THE TIED CARD OF 'worldmintlaw18.CraftTimes'. -/
def craftTimesCard : Claim7 := { stood := { row := craftTimesRow, standIns := [], harness := (true, "b0b1b5c118e6c71c2ce60b1f46d354eb23e09d283d0c5d5e355904ff5a0a3c54"), looks := true }, kinds := [], alts := [], laidByText := true, laidKinds := [.data, .data, .data, .data], laidTests := true, laidLooks := .later }
def CraftTimesCardSaid : Prop := Claim7.holds Tryz.pinned (.plain (OpenSpec.ofChange craftTimesSpec)) craftTimesCard

/-- THE TIED CARD OF 'worldmintlaw18.CraftRolls'. -/
def craftRollsCard : Claim7 := { stood := { row := craftRollsRow, standIns := [], harness := (true, "b0b1b5c118e6c71c2ce60b1f46d354eb23e09d283d0c5d5e355904ff5a0a3c54"), looks := true }, kinds := [], alts := [], laidByText := true, laidKinds := [.data, .data, .data, .data], laidTests := true, laidLooks := .later }
def CraftRollsCardSaid : Prop := Claim7.holds Tryz.pinned (.plain (OpenSpec.ofChange craftRollsSpec)) craftRollsCard

/-- THE TIED CARD OF 'worldmintlaw18.CraftCancels'. -/
def craftCancelsCard : Claim7 := { stood := { row := craftCancelsRow, standIns := [], harness := (true, "b0b1b5c118e6c71c2ce60b1f46d354eb23e09d283d0c5d5e355904ff5a0a3c54"), looks := true }, kinds := [], alts := [], laidByText := true, laidKinds := [.data, .data, .data, .data], laidTests := true, laidLooks := .later }
def CraftCancelsCardSaid : Prop := Claim7.holds Tryz.pinned (.plain (OpenSpec.ofChange craftCancelsSpec)) craftCancelsCard

/-- THE TIED CARD OF 'worldmintlaw18.CraftScripts'. -/
def craftScriptsCard : Claim7 := { stood := { row := craftScriptsRow, standIns := [], harness := (true, "b0b1b5c118e6c71c2ce60b1f46d354eb23e09d283d0c5d5e355904ff5a0a3c54"), looks := true }, kinds := [], alts := [], laidByText := true, laidKinds := [.data, .data, .data, .data], laidTests := true, laidLooks := .later }
def CraftScriptsCardSaid : Prop := Claim7.holds Tryz.pinned (.plain (OpenSpec.ofChange craftScriptsSpec)) craftScriptsCard

/-- THE TIED CARD OF 'worldmintlaw18.CraftNew'. -/
def craftNewCard : Claim7 := { stood := { row := craftNewRow, standIns := [], harness := (true, "b0b1b5c118e6c71c2ce60b1f46d354eb23e09d283d0c5d5e355904ff5a0a3c54"), looks := true }, kinds := [], alts := [], laidByText := true, laidKinds := [.data, .data, .data, .data], laidTests := true, laidLooks := .later }
def CraftNewCardSaid : Prop := Claim7.holds Tryz.pinned (.plain (OpenSpec.ofChange craftNewSpec)) craftNewCard

/-- THE TIED CARD OF 'worldmintlaw18.CraftHolds'. -/
def craftHoldsCard : Claim7 := { stood := { row := craftHoldsRow, standIns := [], harness := (true, "b0b1b5c118e6c71c2ce60b1f46d354eb23e09d283d0c5d5e355904ff5a0a3c54"), looks := true }, kinds := [], alts := [], laidByText := true, laidKinds := [.data, .data, .data, .data], laidTests := true, laidLooks := .later }
def CraftHoldsCardSaid : Prop := Claim7.holds Tryz.pinned (.plain (OpenSpec.ofChange craftHoldsSpec)) craftHoldsCard

/-- THE SECOND FORM's CARD OF 'worldmintlaw18.CraftLoots'. -/
def craftLootsUptoCard : Claim7 := { stood := { row := craftLootsUptoRow, standIns := [], harness := (true, "b0b1b5c118e6c71c2ce60b1f46d354eb23e09d283d0c5d5e355904ff5a0a3c54"), looks := true }, kinds := [], alts := [], laidByText := true, laidKinds := [.data, .data, .data, .data], laidTests := true, laidLooks := .later }
def CraftLootsUptoCardSaid : Prop := Claim7.holds Tryz.pinned (.plain (OpenSpec.upto craftLootsSpec)) craftLootsUptoCard

/-- THE SECOND FORM's CARD OF 'worldmintlaw18.CraftTimes'. -/
def craftTimesUptoCard : Claim7 := { stood := { row := craftTimesUptoRow, standIns := [], harness := (true, "b0b1b5c118e6c71c2ce60b1f46d354eb23e09d283d0c5d5e355904ff5a0a3c54"), looks := true }, kinds := [], alts := [], laidByText := true, laidKinds := [.data, .data, .data, .data], laidTests := true, laidLooks := .later }
def CraftTimesUptoCardSaid : Prop := Claim7.holds Tryz.pinned (.plain (OpenSpec.upto craftTimesSpec)) craftTimesUptoCard

/-- THE SECOND FORM's CARD OF 'worldmintlaw18.CraftRolls'. -/
def craftRollsUptoCard : Claim7 := { stood := { row := craftRollsUptoRow, standIns := [], harness := (true, "b0b1b5c118e6c71c2ce60b1f46d354eb23e09d283d0c5d5e355904ff5a0a3c54"), looks := true }, kinds := [], alts := [], laidByText := true, laidKinds := [.data, .data, .data, .data], laidTests := true, laidLooks := .later }
def CraftRollsUptoCardSaid : Prop := Claim7.holds Tryz.pinned (.plain (OpenSpec.upto craftRollsSpec)) craftRollsUptoCard

/-- THE SECOND FORM's CARD OF 'worldmintlaw18.CraftCancels'. -/
def craftCancelsUptoCard : Claim7 := { stood := { row := craftCancelsUptoRow, standIns := [], harness := (true, "b0b1b5c118e6c71c2ce60b1f46d354eb23e09d283d0c5d5e355904ff5a0a3c54"), looks := true }, kinds := [], alts := [], laidByText := true, laidKinds := [.data, .data, .data, .data], laidTests := true, laidLooks := .later }
def CraftCancelsUptoCardSaid : Prop := Claim7.holds Tryz.pinned (.plain (OpenSpec.upto craftCancelsSpec)) craftCancelsUptoCard

/-- THE SECOND FORM's CARD OF 'worldmintlaw18.CraftScripts'. -/
def craftScriptsUptoCard : Claim7 := { stood := { row := craftScriptsUptoRow, standIns := [], harness := (true, "b0b1b5c118e6c71c2ce60b1f46d354eb23e09d283d0c5d5e355904ff5a0a3c54"), looks := true }, kinds := [], alts := [], laidByText := true, laidKinds := [.data, .data, .data, .data], laidTests := true, laidLooks := .later }
def CraftScriptsUptoCardSaid : Prop := Claim7.holds Tryz.pinned (.plain (OpenSpec.upto craftScriptsSpec)) craftScriptsUptoCard

/-- THE SECOND FORM's CARD OF 'worldmintlaw18.CraftNew'. -/
def craftNewUptoCard : Claim7 := { stood := { row := craftNewUptoRow, standIns := [], harness := (true, "b0b1b5c118e6c71c2ce60b1f46d354eb23e09d283d0c5d5e355904ff5a0a3c54"), looks := true }, kinds := [], alts := [], laidByText := true, laidKinds := [.data, .data, .data, .data], laidTests := true, laidLooks := .later }
def CraftNewUptoCardSaid : Prop := Claim7.holds Tryz.pinned (.plain (OpenSpec.upto craftNewSpec)) craftNewUptoCard

/-- THE SECOND FORM's CARD OF 'worldmintlaw18.CraftHolds'. -/
def craftHoldsUptoCard : Claim7 := { stood := { row := craftHoldsUptoRow, standIns := [], harness := (true, "b0b1b5c118e6c71c2ce60b1f46d354eb23e09d283d0c5d5e355904ff5a0a3c54"), looks := true }, kinds := [], alts := [], laidByText := true, laidKinds := [.data, .data, .data, .data], laidTests := true, laidLooks := .later }
def CraftHoldsUptoCardSaid : Prop := Claim7.holds Tryz.pinned (.plain (OpenSpec.upto craftHoldsSpec)) craftHoldsUptoCard
end Rows
end Go.Proofs.YtfmgkkofledkbaaGreatDoor
