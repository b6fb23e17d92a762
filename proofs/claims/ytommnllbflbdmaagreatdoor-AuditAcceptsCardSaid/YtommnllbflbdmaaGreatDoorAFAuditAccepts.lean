/- The closed facts of the row of 'AuditAccepts', each computed by the kernel. No condition. -/
import Derived.Test.YtommnllbflbdmaaGreatDoorRows
import Derived.Test.YtommnllbflbdmaaGreatDoorCards
import Derived.JoinedOf
import Derived.SevenTiedAt
set_option linter.all false
namespace Go.Proofs.YtommnllbflbdmaaGreatDoor.auditAccepts
open Go.ChangeShapes Go.WideShapes
def and2{a b:Bool}(h:a=true)(k:b=true):(a && b)=true:=by rw[h,k];rfl
def fc1:(Rows.auditAcceptsRow.wf (OpenSpec.ofChange Rows.auditAcceptsSpec))=true:=by kernel_rfl
def fc2:(laidOutB Tryz.pinned.checked.prog)=true:=by kernel_rfl
def fc3:(mapsRowed Tryz.pinned.checked.prog)=true:=by kernel_rfl
def fc4:(Tryz.f5.params.all (Tryz.pinned.checked.prog.readableRec ·))=true:=by kernel_rfl
def fc5:(namedTie Tryz.pinned.checked.prog Rows.auditAcceptsRow.named Rows.auditAcceptsSpec.vars)=true:=by kernel_rfl
def fc6:((Rows.auditAcceptsRow.stops == []))=true:=by kernel_rfl
def fc7:((Tryz.pinned.checked.prog.stops == []))=true:=by kernel_rfl
def fc8:((Rows.auditAcceptsRow.knobs == []))=true:=by kernel_rfl
def fc9:((Tryz.pinned.checked.prog.stopKnobs == []))=true:=by kernel_rfl
def fc10:((Rows.auditAcceptsRow.inPlace == Tryz.pinned.checked.prog.inPlace 5))=true:=by kernel_rfl
def fc11:((Rows.auditAcceptsRow.unfollowed == Tryz.pinned.checked.prog.unfollowed 5))=true:=by kernel_rfl
def fc12:((Rows.auditAcceptsRow.recurses == Tryz.pinned.checked.prog.recurses 5))=true:=by kernel_rfl
def fc13:((Rows.auditAcceptsRow.named == Tryz.pinned.checked.prog.varsNamed 5))=true:=by kernel_rfl
def fc14:((Rows.auditAcceptsRow.maps == (Tryz.f5.params.toList++Rows.auditAcceptsSpec.plain.varTypes Tryz.pinned.checked.prog).any (Tryz.pinned.checked.prog.mapsRec ·)))=true:=by kernel_rfl
def fc15:((Rows.auditAcceptsRow.ifaces == (Tryz.f5.params.toList++Rows.auditAcceptsSpec.plain.varTypes Tryz.pinned.checked.prog).any (Tryz.pinned.checked.prog.ifacesRec ·)))=true:=by kernel_rfl
def fc16:((Rows.auditAcceptsRow.mapsOut == Tryz.pinned.checked.prog.mapsAmong Tryz.f5.resultTypes.toList))=true:=by kernel_rfl
def fc17:((Rows.auditAcceptsRow.loops == (Tryz.f5.params.toList++Rows.auditAcceptsSpec.plain.varTypes Tryz.pinned.checked.prog).any (Tryz.pinned.checked.prog.loopsFrom ·)))=true:=by kernel_rfl
def fc18:((Rows.auditAcceptsRow.wideKeys == (Tryz.f5.params.toList++Rows.auditAcceptsSpec.plain.varTypes Tryz.pinned.checked.prog++Tryz.f5.resultTypes.toList).any (Tryz.pinned.checked.prog.wideKeysFrom ·)))=true:=by kernel_rfl
def fc19:(Rows.auditAcceptsSpec.vars.all (Tryz.pinned.checked.prog.varReadable ·))=true:=by kernel_rfl
def fc20:(Tryz.f5.resultTypes.all (fun t=>Tryz.pinned.checked.prog.readableRec t && decide (t<Tryz.pinned.checked.prog.types.size)))=true:=by kernel_rfl
def fc21:((Rows.auditAcceptsRow.ifacesOut == Tryz.f5.resultTypes.toList.any (Tryz.pinned.checked.prog.ifacesRec ·)))=true:=by kernel_rfl
def fc22:((Rows.auditAcceptsRow.loopsOut == Tryz.f5.resultTypes.toList.any (Tryz.pinned.checked.prog.loopsFrom ·)))=true:=by kernel_rfl
def fc23:((Rows.auditAcceptsRow.plainKeys == Tryz.pinned.checked.prog.plainKeys))=true:=by kernel_rfl
def fc24:(Rows.auditAcceptsRow.shortTexts.isNone)=true:=by kernel_rfl
def fc25:(Tryz.pinned.checked.prog.stopsHeard)=true:=by kernel_rfl
def fc26:(Tryz.pinned.checked.prog.mayEnter)=true:=by kernel_rfl
def fc27:((Rows.auditAcceptsRow.lifted == Tryz.pinned.checked.prog.liftsFinal))=true:=by kernel_rfl
def fc28:((Tryz.pinned.checked.prog.make == some Rows.auditAcceptsRow.make))=true:=by kernel_rfl
def fc29:((Rows.auditAcceptsRow.kinds == (if Rows.auditAcceptsRow.domain.isEmpty then[] else Tryz.f5.params.toList.map fun t=>match Tryz.pinned.checked.prog.underlying t with|some (.int k)=>some k|_=>none)))=true:=by kernel_rfl
def fc30:((Rows.auditAcceptsRow.pinned == Rows.auditAcceptsRow.pinnedBy))=true:=by kernel_rfl
def fc31:((Rows.auditAcceptsRow.veiled == (Tryz.f5.params.toList++Rows.auditAcceptsSpec.plain.varTypes Tryz.pinned.checked.prog++Tryz.f5.resultTypes.toList).any (Tryz.pinned.checked.prog.veiledRec ·)))=true:=by kernel_rfl
def fc32:(Rows.auditAcceptsRow.veiledFits Tryz.pinned.checked.prog Tryz.f5.params.toList (Tryz.f5.params.toList++Rows.auditAcceptsSpec.plain.varTypes Tryz.pinned.checked.prog++Tryz.f5.resultTypes.toList))=true:=by kernel_rfl
set_option maxRecDepth 100000 in
def closed:joinedFacts Tryz.pinned.checked.prog 5 Tryz.f5 Rows.auditAcceptsSpec Rows.auditAcceptsRow=true:=by
 unfold joinedFacts;exact(and2 (and2 (and2 (and2 (and2 (and2 (and2 (and2 (and2 (and2 (and2 (and2 (and2 (and2 (and2 (and2 (and2 (and2 (and2 (and2 (and2 (and2 (and2 (and2 (and2 (and2 (and2 (and2 (and2 (and2 (and2 fc1 fc2) fc3) fc4) fc5) fc6) fc7) fc8) fc9) fc10) fc11) fc12) fc13) fc14) fc15) fc16) fc17) fc18) fc19) fc20) fc21) fc22) fc23) fc24) fc25) fc26) fc27) fc28) fc29) fc30) fc31) fc32)
def kc1:Rows.auditAcceptsRow.wfByText (OpenSpec.ofChange Rows.auditAcceptsSpec)=true:=by kernel_rfl
def kc2 : Tryz.pinned.checked.prog.mainIs = some (true, "1fadffcab595cda3fb4a67f12a07ab05dfd9da4af71aeaf08e3889079383beb0".toList) := by kernel_rfl
def kc3:true=Tryz.pinned.checked.prog.looks []:=by kernel_rfl
def kc4:([22,3].all fun u=>!Tryz.prog.wantsStandIn u)=true:=by kernel_rfl
def kc5:false=Rows.auditAcceptsRow.goesBy Tryz.pinned.checked.prog:=by kernel_rfl
def kc6 : Tryz.prog.funcNamed "worldmint/worldmintlaw39.AuditAccepts" = some 5 := by kernel_rfl
