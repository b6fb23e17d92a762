/- The closed facts of the row of 'AuditImports', each computed by the kernel. No condition. -/
import Derived.Test.YtommnllbflbdmaaGreatDoorRows
import Derived.Test.YtommnllbflbdmaaGreatDoorCards
import Derived.JoinedOf
import Derived.SevenTiedAt
set_option linter.all false
namespace Go.Proofs.YtommnllbflbdmaaGreatDoor.auditImports
open Go.ChangeShapes Go.WideShapes
def and2{a b:Bool}(h:a=true)(k:b=true):(a && b)=true:=by rw[h,k];rfl
def fc1:(Rows.auditImportsRow.wf (OpenSpec.ofChange Rows.auditImportsSpec))=true:=by kernel_rfl
def fc2:(laidOutB Tryz.pinned.checked.prog)=true:=by kernel_rfl
def fc3:(mapsRowed Tryz.pinned.checked.prog)=true:=by kernel_rfl
def fc4:(Tryz.f8.params.all (Tryz.pinned.checked.prog.readableRec ·))=true:=by kernel_rfl
def fc5:(namedTie Tryz.pinned.checked.prog Rows.auditImportsRow.named Rows.auditImportsSpec.vars)=true:=by kernel_rfl
def fc6:((Rows.auditImportsRow.stops == []))=true:=by kernel_rfl
def fc7:((Tryz.pinned.checked.prog.stops == []))=true:=by kernel_rfl
def fc8:((Rows.auditImportsRow.knobs == []))=true:=by kernel_rfl
def fc9:((Tryz.pinned.checked.prog.stopKnobs == []))=true:=by kernel_rfl
def fc10:((Rows.auditImportsRow.inPlace == Tryz.pinned.checked.prog.inPlace 8))=true:=by kernel_rfl
def fc11:((Rows.auditImportsRow.unfollowed == Tryz.pinned.checked.prog.unfollowed 8))=true:=by kernel_rfl
def fc12:((Rows.auditImportsRow.recurses == Tryz.pinned.checked.prog.recurses 8))=true:=by kernel_rfl
def fc13:((Rows.auditImportsRow.named == Tryz.pinned.checked.prog.varsNamed 8))=true:=by kernel_rfl
def fc14:((Rows.auditImportsRow.maps == (Tryz.f8.params.toList++Rows.auditImportsSpec.plain.varTypes Tryz.pinned.checked.prog).any (Tryz.pinned.checked.prog.mapsRec ·)))=true:=by kernel_rfl
def fc15:((Rows.auditImportsRow.ifaces == (Tryz.f8.params.toList++Rows.auditImportsSpec.plain.varTypes Tryz.pinned.checked.prog).any (Tryz.pinned.checked.prog.ifacesRec ·)))=true:=by kernel_rfl
def fc16:((Rows.auditImportsRow.mapsOut == Tryz.pinned.checked.prog.mapsAmong Tryz.f8.resultTypes.toList))=true:=by kernel_rfl
def fc17:((Rows.auditImportsRow.loops == (Tryz.f8.params.toList++Rows.auditImportsSpec.plain.varTypes Tryz.pinned.checked.prog).any (Tryz.pinned.checked.prog.loopsFrom ·)))=true:=by kernel_rfl
def fc18:((Rows.auditImportsRow.wideKeys == (Tryz.f8.params.toList++Rows.auditImportsSpec.plain.varTypes Tryz.pinned.checked.prog++Tryz.f8.resultTypes.toList).any (Tryz.pinned.checked.prog.wideKeysFrom ·)))=true:=by kernel_rfl
def fc19:(Rows.auditImportsSpec.vars.all (Tryz.pinned.checked.prog.varReadable ·))=true:=by kernel_rfl
def fc20:(Tryz.f8.resultTypes.all (fun t=>Tryz.pinned.checked.prog.readableRec t && decide (t<Tryz.pinned.checked.prog.types.size)))=true:=by kernel_rfl
def fc21:((Rows.auditImportsRow.ifacesOut == Tryz.f8.resultTypes.toList.any (Tryz.pinned.checked.prog.ifacesRec ·)))=true:=by kernel_rfl
def fc22:((Rows.auditImportsRow.loopsOut == Tryz.f8.resultTypes.toList.any (Tryz.pinned.checked.prog.loopsFrom ·)))=true:=by kernel_rfl
def fc23:((Rows.auditImportsRow.plainKeys == Tryz.pinned.checked.prog.plainKeys))=true:=by kernel_rfl
def fc24:(Rows.auditImportsRow.shortTexts.isNone)=true:=by kernel_rfl
def fc25:(Tryz.pinned.checked.prog.stopsHeard)=true:=by kernel_rfl
def fc26:(Tryz.pinned.checked.prog.mayEnter)=true:=by kernel_rfl
def fc27:((Rows.auditImportsRow.lifted == Tryz.pinned.checked.prog.liftsFinal))=true:=by kernel_rfl
def fc28:((Tryz.pinned.checked.prog.make == some Rows.auditImportsRow.make))=true:=by kernel_rfl
def fc29:((Rows.auditImportsRow.kinds == (if Rows.auditImportsRow.domain.isEmpty then[] else Tryz.f8.params.toList.map fun t=>match Tryz.pinned.checked.prog.underlying t with|some (.int k)=>some k|_=>none)))=true:=by kernel_rfl
def fc30:((Rows.auditImportsRow.pinned == Rows.auditImportsRow.pinnedBy))=true:=by kernel_rfl
def fc31:((Rows.auditImportsRow.veiled == (Tryz.f8.params.toList++Rows.auditImportsSpec.plain.varTypes Tryz.pinned.checked.prog++Tryz.f8.resultTypes.toList).any (Tryz.pinned.checked.prog.veiledRec ·)))=true:=by kernel_rfl
def fc32:(Rows.auditImportsRow.veiledFits Tryz.pinned.checked.prog Tryz.f8.params.toList (Tryz.f8.params.toList++Rows.auditImportsSpec.plain.varTypes Tryz.pinned.checked.prog++Tryz.f8.resultTypes.toList))=true:=by kernel_rfl
set_option maxRecDepth 100000 in
def closed:joinedFacts Tryz.pinned.checked.prog 8 Tryz.f8 Rows.auditImportsSpec Rows.auditImportsRow=true:=by
 unfold joinedFacts;exact(and2 (and2 (and2 (and2 (and2 (and2 (and2 (and2 (and2 (and2 (and2 (and2 (and2 (and2 (and2 (and2 (and2 (and2 (and2 (and2 (and2 (and2 (and2 (and2 (and2 (and2 (and2 (and2 (and2 (and2 (and2 fc1 fc2) fc3) fc4) fc5) fc6) fc7) fc8) fc9) fc10) fc11) fc12) fc13) fc14) fc15) fc16) fc17) fc18) fc19) fc20) fc21) fc22) fc23) fc24) fc25) fc26) fc27) fc28) fc29) fc30) fc31) fc32)
def kc1:Rows.auditImportsRow.wfByText (OpenSpec.ofChange Rows.auditImportsSpec)=true:=by kernel_rfl
def kc2 : Tryz.pinned.checked.prog.mainIs = some (true, "1fadffcab595cda3fb4a67f12a07ab05dfd9da4af71aeaf08e3889079383beb0".toList) := by kernel_rfl
def kc3:true=Tryz.pinned.checked.prog.looks []:=by kernel_rfl
def kc4:([22,22,22,3,3,3].all fun u=>!Tryz.prog.wantsStandIn u)=true:=by kernel_rfl
def kc5:false=Rows.auditImportsRow.goesBy Tryz.pinned.checked.prog:=by kernel_rfl
def kc6 : Tryz.prog.funcNamed "worldmint/worldmintlaw39.AuditImports" = some 8 := by kernel_rfl
