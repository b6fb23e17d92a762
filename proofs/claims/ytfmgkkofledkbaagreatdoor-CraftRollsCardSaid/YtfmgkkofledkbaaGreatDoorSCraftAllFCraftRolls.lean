/- The closed facts of the row of 'CraftRolls', each computed by the kernel. No condition. -/
import Derived.Test.YtfmgkkofledkbaaGreatDoorRows
import Derived.Test.YtfmgkkofledkbaaGreatDoorCards
import Derived.JoinedOf
import Derived.SevenTiedAt
set_option linter.all false
namespace Go.Proofs.YtfmgkkofledkbaaGreatDoor.craftRolls
open Go.ChangeShapes Go.WideShapes
theorem and2 {a b:Bool} (h:a=true) (k:b=true):(a && b)=true:=by rw [h,k];rfl
theorem fc1:(Rows.craftRollsRow.wf (OpenSpec.ofChange Rows.craftRollsSpec))=true:=by kernel_rfl
theorem fc2:(laidOutB Tryz.pinned.checked.prog)=true:=by kernel_rfl
theorem fc3:(mapsRowed Tryz.pinned.checked.prog)=true:=by kernel_rfl
theorem fc4:(Tryz.f5.params.all (Tryz.pinned.checked.prog.readableRec ·))=true:=by kernel_rfl
theorem fc5:(namedTie Tryz.pinned.checked.prog Rows.craftRollsRow.named Rows.craftRollsSpec.vars)=true:=by kernel_rfl
theorem fc6:((Rows.craftRollsRow.stops == []))=true:=by kernel_rfl
theorem fc7:((Tryz.pinned.checked.prog.stops == []))=true:=by kernel_rfl
theorem fc8:((Rows.craftRollsRow.knobs == []))=true:=by kernel_rfl
theorem fc9:((Tryz.pinned.checked.prog.stopKnobs == []))=true:=by kernel_rfl
theorem fc10:((Rows.craftRollsRow.inPlace == Tryz.pinned.checked.prog.inPlace 5))=true:=by kernel_rfl
theorem fc11:((Rows.craftRollsRow.unfollowed == Tryz.pinned.checked.prog.unfollowed 5))=true:=by kernel_rfl
theorem fc12:((Rows.craftRollsRow.recurses == Tryz.pinned.checked.prog.recurses 5))=true:=by kernel_rfl
theorem fc13:((Rows.craftRollsRow.named == Tryz.pinned.checked.prog.varsNamed 5))=true:=by kernel_rfl
theorem fc14:((Rows.craftRollsRow.maps == (Tryz.f5.params.toList++Rows.craftRollsSpec.plain.varTypes Tryz.pinned.checked.prog).any (Tryz.pinned.checked.prog.mapsRec ·)))=true:=by kernel_rfl
theorem fc15:((Rows.craftRollsRow.ifaces == (Tryz.f5.params.toList++Rows.craftRollsSpec.plain.varTypes Tryz.pinned.checked.prog).any (Tryz.pinned.checked.prog.ifacesRec ·)))=true:=by kernel_rfl
theorem fc16:((Rows.craftRollsRow.mapsOut == Tryz.pinned.checked.prog.mapsAmong Tryz.f5.resultTypes.toList))=true:=by kernel_rfl
theorem fc17:((Rows.craftRollsRow.loops == (Tryz.f5.params.toList++Rows.craftRollsSpec.plain.varTypes Tryz.pinned.checked.prog).any (Tryz.pinned.checked.prog.loopsFrom ·)))=true:=by kernel_rfl
theorem fc18:((Rows.craftRollsRow.wideKeys == (Tryz.f5.params.toList++Rows.craftRollsSpec.plain.varTypes Tryz.pinned.checked.prog++Tryz.f5.resultTypes.toList).any (Tryz.pinned.checked.prog.wideKeysFrom ·)))=true:=by kernel_rfl
theorem fc19:(Rows.craftRollsSpec.vars.all (Tryz.pinned.checked.prog.varReadable ·))=true:=by kernel_rfl
theorem fc20:(Tryz.f5.resultTypes.all (fun t=>Tryz.pinned.checked.prog.readableRec t && decide (t<Tryz.pinned.checked.prog.types.size)))=true:=by kernel_rfl
theorem fc21:((Rows.craftRollsRow.ifacesOut == Tryz.f5.resultTypes.toList.any (Tryz.pinned.checked.prog.ifacesRec ·)))=true:=by kernel_rfl
theorem fc22:((Rows.craftRollsRow.loopsOut == Tryz.f5.resultTypes.toList.any (Tryz.pinned.checked.prog.loopsFrom ·)))=true:=by kernel_rfl
theorem fc23:((Rows.craftRollsRow.plainKeys == Tryz.pinned.checked.prog.plainKeys))=true:=by kernel_rfl
theorem fc24:(Rows.craftRollsRow.shortTexts.isNone)=true:=by kernel_rfl
theorem fc25:(Tryz.pinned.checked.prog.stopsHeard)=true:=by kernel_rfl
theorem fc26:(Tryz.pinned.checked.prog.mayEnter)=true:=by kernel_rfl
theorem fc27:((Rows.craftRollsRow.lifted == Tryz.pinned.checked.prog.liftsFinal))=true:=by kernel_rfl
theorem fc28:((Tryz.pinned.checked.prog.make == some Rows.craftRollsRow.make))=true:=by kernel_rfl
theorem fc29:((Rows.craftRollsRow.kinds == (if Rows.craftRollsRow.domain.isEmpty then [] else Tryz.f5.params.toList.map fun t=>match Tryz.pinned.checked.prog.underlying t with|some (.int k)=>some k|_=>none)))=true:=by kernel_rfl
theorem fc30:((Rows.craftRollsRow.pinned == Rows.craftRollsRow.pinnedBy))=true:=by kernel_rfl
theorem fc31:((Rows.craftRollsRow.veiled == (Tryz.f5.params.toList++Rows.craftRollsSpec.plain.varTypes Tryz.pinned.checked.prog++Tryz.f5.resultTypes.toList).any (Tryz.pinned.checked.prog.veiledRec ·)))=true:=by kernel_rfl
theorem fc32:(Rows.craftRollsRow.veiledFits Tryz.pinned.checked.prog Tryz.f5.params.toList (Tryz.f5.params.toList++Rows.craftRollsSpec.plain.varTypes Tryz.pinned.checked.prog++Tryz.f5.resultTypes.toList))=true:=by kernel_rfl
set_option maxRecDepth 100000 in
theorem closed:joinedFacts Tryz.pinned.checked.prog 5 Tryz.f5 Rows.craftRollsSpec Rows.craftRollsRow=true:=by
 unfold joinedFacts
 exact (and2 (and2 (and2 (and2 (and2 (and2 (and2 (and2 (and2 (and2 (and2 (and2 (and2 (and2 (and2 (and2 (and2 (and2 (and2 (and2 (and2 (and2 (and2 (and2 (and2 (and2 (and2 (and2 (and2 (and2 (and2 fc1 fc2) fc3) fc4) fc5) fc6) fc7) fc8) fc9) fc10) fc11) fc12) fc13) fc14) fc15) fc16) fc17) fc18) fc19) fc20) fc21) fc22) fc23) fc24) fc25) fc26) fc27) fc28) fc29) fc30) fc31) fc32)
theorem kc1:Rows.craftRollsRow.wfByText (OpenSpec.ofChange Rows.craftRollsSpec)=true:=by kernel_rfl
theorem kc2 : Tryz.pinned.checked.prog.mainIs = some (true, "b0b1b5c118e6c71c2ce60b1f46d354eb23e09d283d0c5d5e355904ff5a0a3c54".toList) := by kernel_rfl
theorem kc3:true=Tryz.pinned.checked.prog.looks []:=by kernel_rfl
theorem kc4:([3,34,3].all fun u=>!Tryz.prog.wantsStandIn u)=true:=by kernel_rfl
theorem kc5:false=Rows.craftRollsRow.goesBy Tryz.pinned.checked.prog:=by kernel_rfl
theorem kc6 : Tryz.prog.funcNamed "worldmint/worldmintlaw18.CraftRolls" = some 5 := by kernel_rfl
end Go.Proofs.YtfmgkkofledkbaaGreatDoor.craftRolls
