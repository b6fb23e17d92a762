/- The closed facts of the row of 'AuditFinds', each computed by the kernel. No condition. -/
import Derived.Test.YtommnllbflbdmaaGreatDoorRows
import Derived.Test.YtommnllbflbdmaaGreatDoorCards
import Derived.JoinedOf
import Derived.SevenTiedAt
set_option linter.all false
namespace Go.Proofs.YtommnllbflbdmaaGreatDoor.auditFinds
open Go.ChangeShapes Go.WideShapes
def and2{a b:Bool}(h:a=true)(k:b=true):(a && b)=true:=by rw[h,k];rfl
def fc1:(Rows.auditFindsRow.wf (OpenSpec.ofChange Rows.auditFindsSpec))=true:=by kernel_rfl
def fc2:(laidOutB Tryz.pinned.checked.prog)=true:=by kernel_rfl
def fc3:(mapsRowed Tryz.pinned.checked.prog)=true:=by kernel_rfl
def fc4:(Tryz.f6.params.all (Tryz.pinned.checked.prog.readableRec ·))=true:=by kernel_rfl
def fc5:(namedTie Tryz.pinned.checked.prog Rows.auditFindsRow.named Rows.auditFindsSpec.vars)=true:=by kernel_rfl
def fc6:((Rows.auditFindsRow.stops == []))=true:=by kernel_rfl
def fc7:((Tryz.pinned.checked.prog.stops == []))=true:=by kernel_rfl
def fc8:((Rows.auditFindsRow.knobs == []))=true:=by kernel_rfl
def fc9:((Tryz.pinned.checked.prog.stopKnobs == []))=true:=by kernel_rfl
def fc10:((Rows.auditFindsRow.inPlace == Tryz.pinned.checked.prog.inPlace 6))=true:=by kernel_rfl
def fc11:((Rows.auditFindsRow.unfollowed == Tryz.pinned.checked.prog.unfollowed 6))=true:=by kernel_rfl
def fc12:((Rows.auditFindsRow.recurses == Tryz.pinned.checked.prog.recurses 6))=true:=by kernel_rfl
def fc13:((Rows.auditFindsRow.named == Tryz.pinned.checked.prog.varsNamed 6))=true:=by kernel_rfl
def fc14:((Rows.auditFindsRow.maps == (Tryz.f6.params.toList++Rows.auditFindsSpec.plain.varTypes Tryz.pinned.checked.prog).any (Tryz.pinned.checked.prog.mapsRec ·)))=true:=by kernel_rfl
def fc15:((Rows.auditFindsRow.ifaces == (Tryz.f6.params.toList++Rows.auditFindsSpec.plain.varTypes Tryz.pinned.checked.prog).any (Tryz.pinned.checked.prog.ifacesRec ·)))=true:=by kernel_rfl
def fc16:((Rows.auditFindsRow.mapsOut == Tryz.pinned.checked.prog.mapsAmong Tryz.f6.resultTypes.toList))=true:=by kernel_rfl
def fc17:((Rows.auditFindsRow.loops == (Tryz.f6.params.toList++Rows.auditFindsSpec.plain.varTypes Tryz.pinned.checked.prog).any (Tryz.pinned.checked.prog.loopsFrom ·)))=true:=by kernel_rfl
def fc18:((Rows.auditFindsRow.wideKeys == (Tryz.f6.params.toList++Rows.auditFindsSpec.plain.varTypes Tryz.pinned.checked.prog++Tryz.f6.resultTypes.toList).any (Tryz.pinned.checked.prog.wideKeysFrom ·)))=true:=by kernel_rfl
def fc19:(Rows.auditFindsSpec.vars.all (Tryz.pinned.checked.prog.varReadable ·))=true:=by kernel_rfl
def fc20:(Tryz.f6.resultTypes.all (fun t=>Tryz.pinned.checked.prog.readableRec t && decide (t<Tryz.pinned.checked.prog.types.size)))=true:=by kernel_rfl
def fc21:((Rows.auditFindsRow.ifacesOut == Tryz.f6.resultTypes.toList.any (Tryz.pinned.checked.prog.ifacesRec ·)))=true:=by kernel_rfl
def fc22:((Rows.auditFindsRow.loopsOut == Tryz.f6.resultTypes.toList.any (Tryz.pinned.checked.prog.loopsFrom ·)))=true:=by kernel_rfl
def fc23:((Rows.auditFindsRow.plainKeys == Tryz.pinned.checked.prog.plainKeys))=true:=by kernel_rfl
def fc24:(Rows.auditFindsRow.shortTexts.isNone)=true:=by kernel_rfl
def fc25:(Tryz.pinned.checked.prog.stopsHeard)=true:=by kernel_rfl
def fc26:(Tryz.pinned.checked.prog.mayEnter)=true:=by kernel_rfl
def fc27:((Rows.auditFindsRow.lifted == Tryz.pinned.checked.prog.liftsFinal))=true:=by kernel_rfl
def fc28:((Tryz.pinned.checked.prog.make == some Rows.auditFindsRow.make))=true:=by kernel_rfl
def fc29:((Rows.auditFindsRow.kinds == (if Rows.auditFindsRow.domain.isEmpty then[] else Tryz.f6.params.toList.map fun t=>match Tryz.pinned.checked.prog.underlying t with|some (.int k)=>some k|_=>none)))=true:=by kernel_rfl
def fc30:((Rows.auditFindsRow.pinned == Rows.auditFindsRow.pinnedBy))=true:=by kernel_rfl
def fc31:((Rows.auditFindsRow.veiled == (Tryz.f6.params.toList++Rows.auditFindsSpec.plain.varTypes Tryz.pinned.checked.prog++Tryz.f6.resultTypes.toList).any (Tryz.pinned.checked.prog.veiledRec ·)))=true:=by kernel_rfl
def fc32:(Rows.auditFindsRow.veiledFits Tryz.pinned.checked.prog Tryz.f6.params.toList (Tryz.f6.params.toList++Rows.auditFindsSpec.plain.varTypes Tryz.pinned.checked.prog++Tryz.f6.resultTypes.toList))=true:=by kernel_rfl
set_option maxRecDepth 100000 in
def closed:joinedFacts Tryz.pinned.checked.prog 6 Tryz.f6 Rows.auditFindsSpec Rows.auditFindsRow=true:=by
 unfold joinedFacts;exact(and2 (and2 (and2 (and2 (and2 (and2 (and2 (and2 (and2 (and2 (and2 (and2 (and2 (and2 (and2 (and2 (and2 (and2 (and2 (and2 (and2 (and2 (and2 (and2 (and2 (and2 (and2 (and2 (and2 (and2 (and2 fc1 fc2) fc3) fc4) fc5) fc6) fc7) fc8) fc9) fc10) fc11) fc12) fc13) fc14) fc15) fc16) fc17) fc18) fc19) fc20) fc21) fc22) fc23) fc24) fc25) fc26) fc27) fc28) fc29) fc30) fc31) fc32)
def kc1:Rows.auditFindsRow.wfByText (OpenSpec.ofChange Rows.auditFindsSpec)=true:=by kernel_rfl
def kc2 : Tryz.pinned.checked.prog.mainIs = some (true, "1fadffcab595cda3fb4a67f12a07ab05dfd9da4af71aeaf08e3889079383beb0".toList) := by kernel_rfl
def kc3:true=Tryz.pinned.checked.prog.looks []:=by kernel_rfl
def kc4:([22,3,3,3,3].all fun u=>!Tryz.prog.wantsStandIn u)=true:=by kernel_rfl
def kc5:false=Rows.auditFindsRow.goesBy Tryz.pinned.checked.prog:=by kernel_rfl
def kc6 : Tryz.prog.funcNamed "worldmint/worldmintlaw39.AuditFinds" = some 6 := by kernel_rfl
