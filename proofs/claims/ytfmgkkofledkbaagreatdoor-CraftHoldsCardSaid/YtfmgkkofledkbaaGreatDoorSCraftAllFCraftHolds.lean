/- The closed facts of the row of 'CraftHolds', each computed by the kernel. No condition. -/
import Derived.Test.YtfmgkkofledkbaaGreatDoorRows
import Derived.Test.YtfmgkkofledkbaaGreatDoorCards
import Derived.JoinedOf
import Derived.SevenTiedAt
set_option linter.all false
namespace Go.Proofs.YtfmgkkofledkbaaGreatDoor.craftHolds
open Go.ChangeShapes Go.WideShapes
theorem and2 {a b:Bool} (h:a=true) (k:b=true):(a && b)=true:=by rw [h,k];rfl
theorem fc1:(Rows.craftHoldsRow.wf (OpenSpec.ofChange Rows.craftHoldsSpec))=true:=by kernel_rfl
theorem fc2:(laidOutB Tryz.pinned.checked.prog)=true:=by kernel_rfl
theorem fc3:(mapsRowed Tryz.pinned.checked.prog)=true:=by kernel_rfl
theorem fc4:(Tryz.f9.params.all (Tryz.pinned.checked.prog.readableRec ·))=true:=by kernel_rfl
theorem fc5:(namedTie Tryz.pinned.checked.prog Rows.craftHoldsRow.named Rows.craftHoldsSpec.vars)=true:=by kernel_rfl
theorem fc6:((Rows.craftHoldsRow.stops == []))=true:=by kernel_rfl
theorem fc7:((Tryz.pinned.checked.prog.stops == []))=true:=by kernel_rfl
theorem fc8:((Rows.craftHoldsRow.knobs == []))=true:=by kernel_rfl
theorem fc9:((Tryz.pinned.checked.prog.stopKnobs == []))=true:=by kernel_rfl
theorem fc10:((Rows.craftHoldsRow.inPlace == Tryz.pinned.checked.prog.inPlace 9))=true:=by kernel_rfl
theorem fc11:((Rows.craftHoldsRow.unfollowed == Tryz.pinned.checked.prog.unfollowed 9))=true:=by kernel_rfl
theorem fc12:((Rows.craftHoldsRow.recurses == Tryz.pinned.checked.prog.recurses 9))=true:=by kernel_rfl
theorem fc13:((Rows.craftHoldsRow.named == Tryz.pinned.checked.prog.varsNamed 9))=true:=by kernel_rfl
theorem fc14:((Rows.craftHoldsRow.maps == (Tryz.f9.params.toList++Rows.craftHoldsSpec.plain.varTypes Tryz.pinned.checked.prog).any (Tryz.pinned.checked.prog.mapsRec ·)))=true:=by kernel_rfl
theorem fc15:((Rows.craftHoldsRow.ifaces == (Tryz.f9.params.toList++Rows.craftHoldsSpec.plain.varTypes Tryz.pinned.checked.prog).any (Tryz.pinned.checked.prog.ifacesRec ·)))=true:=by kernel_rfl
theorem fc16:((Rows.craftHoldsRow.mapsOut == Tryz.pinned.checked.prog.mapsAmong Tryz.f9.resultTypes.toList))=true:=by kernel_rfl
theorem fc17:((Rows.craftHoldsRow.loops == (Tryz.f9.params.toList++Rows.craftHoldsSpec.plain.varTypes Tryz.pinned.checked.prog).any (Tryz.pinned.checked.prog.loopsFrom ·)))=true:=by kernel_rfl
theorem fc18:((Rows.craftHoldsRow.wideKeys == (Tryz.f9.params.toList++Rows.craftHoldsSpec.plain.varTypes Tryz.pinned.checked.prog++Tryz.f9.resultTypes.toList).any (Tryz.pinned.checked.prog.wideKeysFrom ·)))=true:=by kernel_rfl
theorem fc19:(Rows.craftHoldsSpec.vars.all (Tryz.pinned.checked.prog.varReadable ·))=true:=by kernel_rfl
theorem fc20:(Tryz.f9.resultTypes.all (fun t=>Tryz.pinned.checked.prog.readableRec t && decide (t<Tryz.pinned.checked.prog.types.size)))=true:=by kernel_rfl
theorem fc21:((Rows.craftHoldsRow.ifacesOut == Tryz.f9.resultTypes.toList.any (Tryz.pinned.checked.prog.ifacesRec ·)))=true:=by kernel_rfl
theorem fc22:((Rows.craftHoldsRow.loopsOut == Tryz.f9.resultTypes.toList.any (Tryz.pinned.checked.prog.loopsFrom ·)))=true:=by kernel_rfl
theorem fc23:((Rows.craftHoldsRow.plainKeys == Tryz.pinned.checked.prog.plainKeys))=true:=by kernel_rfl
theorem fc24:(Rows.craftHoldsRow.shortTexts.isNone)=true:=by kernel_rfl
theorem fc25:(Tryz.pinned.checked.prog.stopsHeard)=true:=by kernel_rfl
theorem fc26:(Tryz.pinned.checked.prog.mayEnter)=true:=by kernel_rfl
theorem fc27:((Rows.craftHoldsRow.lifted == Tryz.pinned.checked.prog.liftsFinal))=true:=by kernel_rfl
theorem fc28:((Tryz.pinned.checked.prog.make == some Rows.craftHoldsRow.make))=true:=by kernel_rfl
theorem fc29:((Rows.craftHoldsRow.kinds == (if Rows.craftHoldsRow.domain.isEmpty then [] else Tryz.f9.params.toList.map fun t=>match Tryz.pinned.checked.prog.underlying t with|some (.int k)=>some k|_=>none)))=true:=by kernel_rfl
theorem fc30:((Rows.craftHoldsRow.pinned == Rows.craftHoldsRow.pinnedBy))=true:=by kernel_rfl
theorem fc31:((Rows.craftHoldsRow.veiled == (Tryz.f9.params.toList++Rows.craftHoldsSpec.plain.varTypes Tryz.pinned.checked.prog++Tryz.f9.resultTypes.toList).any (Tryz.pinned.checked.prog.veiledRec ·)))=true:=by kernel_rfl
theorem fc32:(Rows.craftHoldsRow.veiledFits Tryz.pinned.checked.prog Tryz.f9.params.toList (Tryz.f9.params.toList++Rows.craftHoldsSpec.plain.varTypes Tryz.pinned.checked.prog++Tryz.f9.resultTypes.toList))=true:=by kernel_rfl
set_option maxRecDepth 100000 in
theorem closed:joinedFacts Tryz.pinned.checked.prog 9 Tryz.f9 Rows.craftHoldsSpec Rows.craftHoldsRow=true:=by
 unfold joinedFacts
 exact (and2 (and2 (and2 (and2 (and2 (and2 (and2 (and2 (and2 (and2 (and2 (and2 (and2 (and2 (and2 (and2 (and2 (and2 (and2 (and2 (and2 (and2 (and2 (and2 (and2 (and2 (and2 (and2 (and2 (and2 (and2 fc1 fc2) fc3) fc4) fc5) fc6) fc7) fc8) fc9) fc10) fc11) fc12) fc13) fc14) fc15) fc16) fc17) fc18) fc19) fc20) fc21) fc22) fc23) fc24) fc25) fc26) fc27) fc28) fc29) fc30) fc31) fc32)
theorem kc1:Rows.craftHoldsRow.wfByText (OpenSpec.ofChange Rows.craftHoldsSpec)=true:=by kernel_rfl
theorem kc2 : Tryz.pinned.checked.prog.mainIs = some (true, "b0b1b5c118e6c71c2ce60b1f46d354eb23e09d283d0c5d5e355904ff5a0a3c54".toList) := by kernel_rfl
theorem kc3:true=Tryz.pinned.checked.prog.looks []:=by kernel_rfl
theorem kc4:([3,34].all fun u=>!Tryz.prog.wantsStandIn u)=true:=by kernel_rfl
theorem kc5:false=Rows.craftHoldsRow.goesBy Tryz.pinned.checked.prog:=by kernel_rfl
theorem kc6 : Tryz.prog.funcNamed "worldmint/worldmintlaw18.CraftHolds" = some 9 := by kernel_rfl
end Go.Proofs.YtfmgkkofledkbaaGreatDoor.craftHolds
