/- The closed facts of the row of 'AuditCatalogs', each computed by the kernel. No condition. -/
import Derived.Test.YtommnllbflbdmaaGreatDoorRows
import Derived.Test.YtommnllbflbdmaaGreatDoorCards
import Derived.JoinedOf
import Derived.SevenTiedAt
set_option linter.all false
namespace Go.Proofs.YtommnllbflbdmaaGreatDoor.auditCatalogs
open Go.ChangeShapes Go.WideShapes
def and2{a b:Bool}(h:a=true)(k:b=true):(a && b)=true:=by rw[h,k];rfl
def fc1:(Rows.auditCatalogsRow.wf (OpenSpec.ofChange Rows.auditCatalogsSpec))=true:=by kernel_rfl
def fc2:(laidOutB Tryz.pinned.checked.prog)=true:=by kernel_rfl
def fc3:(mapsRowed Tryz.pinned.checked.prog)=true:=by kernel_rfl
def fc4:(Tryz.f7.params.all (Tryz.pinned.checked.prog.readableRec ·))=true:=by kernel_rfl
def fc5:(namedTie Tryz.pinned.checked.prog Rows.auditCatalogsRow.named Rows.auditCatalogsSpec.vars)=true:=by kernel_rfl
def fc6:((Rows.auditCatalogsRow.stops == []))=true:=by kernel_rfl
def fc7:((Tryz.pinned.checked.prog.stops == []))=true:=by kernel_rfl
def fc8:((Rows.auditCatalogsRow.knobs == []))=true:=by kernel_rfl
def fc9:((Tryz.pinned.checked.prog.stopKnobs == []))=true:=by kernel_rfl
def fc10:((Rows.auditCatalogsRow.inPlace == Tryz.pinned.checked.prog.inPlace 7))=true:=by kernel_rfl
def fc11:((Rows.auditCatalogsRow.unfollowed == Tryz.pinned.checked.prog.unfollowed 7))=true:=by kernel_rfl
def fc12:((Rows.auditCatalogsRow.recurses == Tryz.pinned.checked.prog.recurses 7))=true:=by kernel_rfl
def fc13:((Rows.auditCatalogsRow.named == Tryz.pinned.checked.prog.varsNamed 7))=true:=by kernel_rfl
def fc14:((Rows.auditCatalogsRow.maps == (Tryz.f7.params.toList++Rows.auditCatalogsSpec.plain.varTypes Tryz.pinned.checked.prog).any (Tryz.pinned.checked.prog.mapsRec ·)))=true:=by kernel_rfl
def fc15:((Rows.auditCatalogsRow.ifaces == (Tryz.f7.params.toList++Rows.auditCatalogsSpec.plain.varTypes Tryz.pinned.checked.prog).any (Tryz.pinned.checked.prog.ifacesRec ·)))=true:=by kernel_rfl
def fc16:((Rows.auditCatalogsRow.mapsOut == Tryz.pinned.checked.prog.mapsAmong Tryz.f7.resultTypes.toList))=true:=by kernel_rfl
def fc17:((Rows.auditCatalogsRow.loops == (Tryz.f7.params.toList++Rows.auditCatalogsSpec.plain.varTypes Tryz.pinned.checked.prog).any (Tryz.pinned.checked.prog.loopsFrom ·)))=true:=by kernel_rfl
def fc18:((Rows.auditCatalogsRow.wideKeys == (Tryz.f7.params.toList++Rows.auditCatalogsSpec.plain.varTypes Tryz.pinned.checked.prog++Tryz.f7.resultTypes.toList).any (Tryz.pinned.checked.prog.wideKeysFrom ·)))=true:=by kernel_rfl
def fc19:(Rows.auditCatalogsSpec.vars.all (Tryz.pinned.checked.prog.varReadable ·))=true:=by kernel_rfl
def fc20:(Tryz.f7.resultTypes.all (fun t=>Tryz.pinned.checked.prog.readableRec t && decide (t<Tryz.pinned.checked.prog.types.size)))=true:=by kernel_rfl
def fc21:((Rows.auditCatalogsRow.ifacesOut == Tryz.f7.resultTypes.toList.any (Tryz.pinned.checked.prog.ifacesRec ·)))=true:=by kernel_rfl
def fc22:((Rows.auditCatalogsRow.loopsOut == Tryz.f7.resultTypes.toList.any (Tryz.pinned.checked.prog.loopsFrom ·)))=true:=by kernel_rfl
def fc23:((Rows.auditCatalogsRow.plainKeys == Tryz.pinned.checked.prog.plainKeys))=true:=by kernel_rfl
def fc24:(Rows.auditCatalogsRow.shortTexts.isNone)=true:=by kernel_rfl
def fc25:(Tryz.pinned.checked.prog.stopsHeard)=true:=by kernel_rfl
def fc26:(Tryz.pinned.checked.prog.mayEnter)=true:=by kernel_rfl
def fc27:((Rows.auditCatalogsRow.lifted == Tryz.pinned.checked.prog.liftsFinal))=true:=by kernel_rfl
def fc28:((Tryz.pinned.checked.prog.make == some Rows.auditCatalogsRow.make))=true:=by kernel_rfl
def fc29:((Rows.auditCatalogsRow.kinds == (if Rows.auditCatalogsRow.domain.isEmpty then[] else Tryz.f7.params.toList.map fun t=>match Tryz.pinned.checked.prog.underlying t with|some (.int k)=>some k|_=>none)))=true:=by kernel_rfl
def fc30:((Rows.auditCatalogsRow.pinned == Rows.auditCatalogsRow.pinnedBy))=true:=by kernel_rfl
def fc31:((Rows.auditCatalogsRow.veiled == (Tryz.f7.params.toList++Rows.auditCatalogsSpec.plain.varTypes Tryz.pinned.checked.prog++Tryz.f7.resultTypes.toList).any (Tryz.pinned.checked.prog.veiledRec ·)))=true:=by kernel_rfl
def fc32:(Rows.auditCatalogsRow.veiledFits Tryz.pinned.checked.prog Tryz.f7.params.toList (Tryz.f7.params.toList++Rows.auditCatalogsSpec.plain.varTypes Tryz.pinned.checked.prog++Tryz.f7.resultTypes.toList))=true:=by kernel_rfl
set_option maxRecDepth 100000 in
def closed:joinedFacts Tryz.pinned.checked.prog 7 Tryz.f7 Rows.auditCatalogsSpec Rows.auditCatalogsRow=true:=by
 unfold joinedFacts;exact(and2 (and2 (and2 (and2 (and2 (and2 (and2 (and2 (and2 (and2 (and2 (and2 (and2 (and2 (and2 (and2 (and2 (and2 (and2 (and2 (and2 (and2 (and2 (and2 (and2 (and2 (and2 (and2 (and2 (and2 (and2 fc1 fc2) fc3) fc4) fc5) fc6) fc7) fc8) fc9) fc10) fc11) fc12) fc13) fc14) fc15) fc16) fc17) fc18) fc19) fc20) fc21) fc22) fc23) fc24) fc25) fc26) fc27) fc28) fc29) fc30) fc31) fc32)
def kc1:Rows.auditCatalogsRow.wfByText (OpenSpec.ofChange Rows.auditCatalogsSpec)=true:=by kernel_rfl
def kc2 : Tryz.pinned.checked.prog.mainIs = some (true, "1fadffcab595cda3fb4a67f12a07ab05dfd9da4af71aeaf08e3889079383beb0".toList) := by kernel_rfl
def kc3:true=Tryz.pinned.checked.prog.looks []:=by kernel_rfl
def kc4:([22,22].all fun u=>!Tryz.prog.wantsStandIn u)=true:=by kernel_rfl
def kc5:false=Rows.auditCatalogsRow.goesBy Tryz.pinned.checked.prog:=by kernel_rfl
def kc6 : Tryz.prog.funcNamed "worldmint/worldmintlaw39.AuditCatalogs" = some 7 := by kernel_rfl
