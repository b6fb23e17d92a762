/- The closed facts of the row of 'AuditLedgers', each computed by the kernel. No condition. -/
import Derived.Test.YtommnllbflbdmaaGreatDoorRows
import Derived.Test.YtommnllbflbdmaaGreatDoorCards
import Derived.JoinedOf
import Derived.SevenTiedAt
set_option linter.all false
namespace Go.Proofs.YtommnllbflbdmaaGreatDoor.auditLedgers
open Go.ChangeShapes Go.WideShapes
theorem and2{a b:Bool}(h:a=true)(k:b=true):(a && b)=true:=by rw[h,k];rfl
theorem fc1:(Rows.auditLedgersRow.wf (OpenSpec.ofChange Rows.auditLedgersSpec))=true:=by kernel_rfl
theorem fc2:(laidOutB Tryz.pinned.checked.prog)=true:=by kernel_rfl
theorem fc3:(mapsRowed Tryz.pinned.checked.prog)=true:=by kernel_rfl
theorem fc4:(Tryz.f3.params.all (Tryz.pinned.checked.prog.readableRec ·))=true:=by kernel_rfl
theorem fc5:(namedTie Tryz.pinned.checked.prog Rows.auditLedgersRow.named Rows.auditLedgersSpec.vars)=true:=by kernel_rfl
theorem fc6:((Rows.auditLedgersRow.stops == []))=true:=by kernel_rfl
theorem fc7:((Tryz.pinned.checked.prog.stops == []))=true:=by kernel_rfl
theorem fc8:((Rows.auditLedgersRow.knobs == []))=true:=by kernel_rfl
theorem fc9:((Tryz.pinned.checked.prog.stopKnobs == []))=true:=by kernel_rfl
theorem fc10:((Rows.auditLedgersRow.inPlace == Tryz.pinned.checked.prog.inPlace 3))=true:=by kernel_rfl
theorem fc11:((Rows.auditLedgersRow.unfollowed == Tryz.pinned.checked.prog.unfollowed 3))=true:=by kernel_rfl
theorem fc12:((Rows.auditLedgersRow.recurses == Tryz.pinned.checked.prog.recurses 3))=true:=by kernel_rfl
theorem fc13:((Rows.auditLedgersRow.named == Tryz.pinned.checked.prog.varsNamed 3))=true:=by kernel_rfl
theorem fc14:((Rows.auditLedgersRow.maps == (Tryz.f3.params.toList++Rows.auditLedgersSpec.plain.varTypes Tryz.pinned.checked.prog).any (Tryz.pinned.checked.prog.mapsRec ·)))=true:=by kernel_rfl
theorem fc15:((Rows.auditLedgersRow.ifaces == (Tryz.f3.params.toList++Rows.auditLedgersSpec.plain.varTypes Tryz.pinned.checked.prog).any (Tryz.pinned.checked.prog.ifacesRec ·)))=true:=by kernel_rfl
theorem fc16:((Rows.auditLedgersRow.mapsOut == Tryz.pinned.checked.prog.mapsAmong Tryz.f3.resultTypes.toList))=true:=by kernel_rfl
theorem fc17:((Rows.auditLedgersRow.loops == (Tryz.f3.params.toList++Rows.auditLedgersSpec.plain.varTypes Tryz.pinned.checked.prog).any (Tryz.pinned.checked.prog.loopsFrom ·)))=true:=by kernel_rfl
theorem fc18:((Rows.auditLedgersRow.wideKeys == (Tryz.f3.params.toList++Rows.auditLedgersSpec.plain.varTypes Tryz.pinned.checked.prog++Tryz.f3.resultTypes.toList).any (Tryz.pinned.checked.prog.wideKeysFrom ·)))=true:=by kernel_rfl
theorem fc19:(Rows.auditLedgersSpec.vars.all (Tryz.pinned.checked.prog.varReadable ·))=true:=by kernel_rfl
theorem fc20:(Tryz.f3.resultTypes.all (fun t=>Tryz.pinned.checked.prog.readableRec t && decide (t<Tryz.pinned.checked.prog.types.size)))=true:=by kernel_rfl
theorem fc21:((Rows.auditLedgersRow.ifacesOut == Tryz.f3.resultTypes.toList.any (Tryz.pinned.checked.prog.ifacesRec ·)))=true:=by kernel_rfl
theorem fc22:((Rows.auditLedgersRow.loopsOut == Tryz.f3.resultTypes.toList.any (Tryz.pinned.checked.prog.loopsFrom ·)))=true:=by kernel_rfl
theorem fc23:((Rows.auditLedgersRow.plainKeys == Tryz.pinned.checked.prog.plainKeys))=true:=by kernel_rfl
theorem fc24:(Rows.auditLedgersRow.shortTexts.isNone)=true:=by kernel_rfl
theorem fc25:(Tryz.pinned.checked.prog.stopsHeard)=true:=by kernel_rfl
theorem fc26:(Tryz.pinned.checked.prog.mayEnter)=true:=by kernel_rfl
theorem fc27:((Rows.auditLedgersRow.lifted == Tryz.pinned.checked.prog.liftsFinal))=true:=by kernel_rfl
theorem fc28:((Tryz.pinned.checked.prog.make == some Rows.auditLedgersRow.make))=true:=by kernel_rfl
theorem fc29:((Rows.auditLedgersRow.kinds == (if Rows.auditLedgersRow.domain.isEmpty then[] else Tryz.f3.params.toList.map fun t=>match Tryz.pinned.checked.prog.underlying t with|some (.int k)=>some k|_=>none)))=true:=by kernel_rfl
theorem fc30:((Rows.auditLedgersRow.pinned == Rows.auditLedgersRow.pinnedBy))=true:=by kernel_rfl
theorem fc31:((Rows.auditLedgersRow.veiled == (Tryz.f3.params.toList++Rows.auditLedgersSpec.plain.varTypes Tryz.pinned.checked.prog++Tryz.f3.resultTypes.toList).any (Tryz.pinned.checked.prog.veiledRec ·)))=true:=by kernel_rfl
theorem fc32:(Rows.auditLedgersRow.veiledFits Tryz.pinned.checked.prog Tryz.f3.params.toList (Tryz.f3.params.toList++Rows.auditLedgersSpec.plain.varTypes Tryz.pinned.checked.prog++Tryz.f3.resultTypes.toList))=true:=by kernel_rfl
set_option maxRecDepth 100000 in
theorem closed:joinedFacts Tryz.pinned.checked.prog 3 Tryz.f3 Rows.auditLedgersSpec Rows.auditLedgersRow=true:=by
 unfold joinedFacts;exact(and2 (and2 (and2 (and2 (and2 (and2 (and2 (and2 (and2 (and2 (and2 (and2 (and2 (and2 (and2 (and2 (and2 (and2 (and2 (and2 (and2 (and2 (and2 (and2 (and2 (and2 (and2 (and2 (and2 (and2 (and2 fc1 fc2) fc3) fc4) fc5) fc6) fc7) fc8) fc9) fc10) fc11) fc12) fc13) fc14) fc15) fc16) fc17) fc18) fc19) fc20) fc21) fc22) fc23) fc24) fc25) fc26) fc27) fc28) fc29) fc30) fc31) fc32)
theorem kc1:Rows.auditLedgersRow.wfByText (OpenSpec.ofChange Rows.auditLedgersSpec)=true:=by kernel_rfl
theorem kc2 : Tryz.pinned.checked.prog.mainIs = some (true, "1fadffcab595cda3fb4a67f12a07ab05dfd9da4af71aeaf08e3889079383beb0".toList) := by kernel_rfl
theorem kc3:true=Tryz.pinned.checked.prog.looks []:=by kernel_rfl
theorem kc4:([22,3,3,3,3].all fun u=>!Tryz.prog.wantsStandIn u)=true:=by kernel_rfl
theorem kc5:false=Rows.auditLedgersRow.goesBy Tryz.pinned.checked.prog:=by kernel_rfl
theorem kc6 : Tryz.prog.funcNamed "worldmint/worldmintlaw39.AuditLedgers" = some 3 := by kernel_rfl
