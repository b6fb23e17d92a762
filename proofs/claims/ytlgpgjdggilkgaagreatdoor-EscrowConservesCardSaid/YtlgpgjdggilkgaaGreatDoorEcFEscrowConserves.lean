/- The closed facts of the row of 'EscrowConserves', each computed by the kernel. No condition. -/
import Derived.Test.YtlgpgjdggilkgaaGreatDoorRows
import Derived.Test.YtlgpgjdggilkgaaGreatDoorCards
import Derived.JoinedOf
import Derived.SevenTiedAt
set_option linter.all false
namespace Go.Proofs.YtlgpgjdggilkgaaGreatDoor.escrowConserves
open Go.ChangeShapes Go.WideShapes
def and2{a b:Bool}(h:a=true)(k:b=true):(a && b)=true:=by rw[h,k];rfl
def fc1:(Rows.escrowConservesRow.wf (OpenSpec.ofChange Rows.escrowConservesSpec))=true:=by kernel_rfl
def fc2:(laidOutB Tryz.pinned.checked.prog)=true:=by kernel_rfl
def fc3:(mapsRowed Tryz.pinned.checked.prog)=true:=by kernel_rfl
def fc4:(Tryz.f3.params.all (Tryz.pinned.checked.prog.readableRec ·))=true:=by kernel_rfl
def fc5:(namedTie Tryz.pinned.checked.prog Rows.escrowConservesRow.named Rows.escrowConservesSpec.vars)=true:=by kernel_rfl
def fc6:((Rows.escrowConservesRow.stops == []))=true:=by kernel_rfl
def fc7:((Tryz.pinned.checked.prog.stops == []))=true:=by kernel_rfl
def fc8:((Rows.escrowConservesRow.knobs == []))=true:=by kernel_rfl
def fc9:((Tryz.pinned.checked.prog.stopKnobs == []))=true:=by kernel_rfl
def fc10:((Rows.escrowConservesRow.inPlace == Tryz.pinned.checked.prog.inPlace 3))=true:=by kernel_rfl
def fc11:((Rows.escrowConservesRow.unfollowed == Tryz.pinned.checked.prog.unfollowed 3))=true:=by kernel_rfl
def fc12:((Rows.escrowConservesRow.recurses == Tryz.pinned.checked.prog.recurses 3))=true:=by kernel_rfl
def fc13:((Rows.escrowConservesRow.named == Tryz.pinned.checked.prog.varsNamed 3))=true:=by kernel_rfl
def fc14:((Rows.escrowConservesRow.maps == (Tryz.f3.params.toList++Rows.escrowConservesSpec.plain.varTypes Tryz.pinned.checked.prog).any (Tryz.pinned.checked.prog.mapsRec ·)))=true:=by kernel_rfl
def fc15:((Rows.escrowConservesRow.ifaces == (Tryz.f3.params.toList++Rows.escrowConservesSpec.plain.varTypes Tryz.pinned.checked.prog).any (Tryz.pinned.checked.prog.ifacesRec ·)))=true:=by kernel_rfl
def fc16:((Rows.escrowConservesRow.mapsOut == Tryz.pinned.checked.prog.mapsAmong Tryz.f3.resultTypes.toList))=true:=by kernel_rfl
def fc17:((Rows.escrowConservesRow.loops == (Tryz.f3.params.toList++Rows.escrowConservesSpec.plain.varTypes Tryz.pinned.checked.prog).any (Tryz.pinned.checked.prog.loopsFrom ·)))=true:=by kernel_rfl
def fc18:((Rows.escrowConservesRow.wideKeys == (Tryz.f3.params.toList++Rows.escrowConservesSpec.plain.varTypes Tryz.pinned.checked.prog++Tryz.f3.resultTypes.toList).any (Tryz.pinned.checked.prog.wideKeysFrom ·)))=true:=by kernel_rfl
def fc19:(Rows.escrowConservesSpec.vars.all (Tryz.pinned.checked.prog.varReadable ·))=true:=by kernel_rfl
def fc20:(Tryz.f3.resultTypes.all (fun t=>Tryz.pinned.checked.prog.readableRec t && decide (t<Tryz.pinned.checked.prog.types.size)))=true:=by kernel_rfl
def fc21:((Rows.escrowConservesRow.ifacesOut == Tryz.f3.resultTypes.toList.any (Tryz.pinned.checked.prog.ifacesRec ·)))=true:=by kernel_rfl
def fc22:((Rows.escrowConservesRow.loopsOut == Tryz.f3.resultTypes.toList.any (Tryz.pinned.checked.prog.loopsFrom ·)))=true:=by kernel_rfl
def fc23:((Rows.escrowConservesRow.plainKeys == Tryz.pinned.checked.prog.plainKeys))=true:=by kernel_rfl
def fc24:(Rows.escrowConservesRow.shortTexts.isNone)=true:=by kernel_rfl
def fc25:(Tryz.pinned.checked.prog.stopsHeard)=true:=by kernel_rfl
def fc26:(Tryz.pinned.checked.prog.mayEnter)=true:=by kernel_rfl
def fc27:((Rows.escrowConservesRow.lifted == Tryz.pinned.checked.prog.liftsFinal))=true:=by kernel_rfl
def fc28:((Tryz.pinned.checked.prog.make == some Rows.escrowConservesRow.make))=true:=by kernel_rfl
def fc29:((Rows.escrowConservesRow.kinds == (if Rows.escrowConservesRow.domain.isEmpty then[] else Tryz.f3.params.toList.map fun t=>match Tryz.pinned.checked.prog.underlying t with|some (.int k)=>some k|_=>none)))=true:=by kernel_rfl
def fc30:((Rows.escrowConservesRow.pinned == Rows.escrowConservesRow.pinnedBy))=true:=by kernel_rfl
def fc31:((Rows.escrowConservesRow.veiled == (Tryz.f3.params.toList++Rows.escrowConservesSpec.plain.varTypes Tryz.pinned.checked.prog++Tryz.f3.resultTypes.toList).any (Tryz.pinned.checked.prog.veiledRec ·)))=true:=by kernel_rfl
def fc32:(Rows.escrowConservesRow.veiledFits Tryz.pinned.checked.prog Tryz.f3.params.toList (Tryz.f3.params.toList++Rows.escrowConservesSpec.plain.varTypes Tryz.pinned.checked.prog++Tryz.f3.resultTypes.toList))=true:=by kernel_rfl
set_option maxRecDepth 100000 in
def closed:joinedFacts Tryz.pinned.checked.prog 3 Tryz.f3 Rows.escrowConservesSpec Rows.escrowConservesRow=true:=by
 unfold joinedFacts;exact(and2 (and2 (and2 (and2 (and2 (and2 (and2 (and2 (and2 (and2 (and2 (and2 (and2 (and2 (and2 (and2 (and2 (and2 (and2 (and2 (and2 (and2 (and2 (and2 (and2 (and2 (and2 (and2 (and2 (and2 (and2 fc1 fc2) fc3) fc4) fc5) fc6) fc7) fc8) fc9) fc10) fc11) fc12) fc13) fc14) fc15) fc16) fc17) fc18) fc19) fc20) fc21) fc22) fc23) fc24) fc25) fc26) fc27) fc28) fc29) fc30) fc31) fc32)
def kc1:Rows.escrowConservesRow.wfByText (OpenSpec.ofChange Rows.escrowConservesSpec)=true:=by kernel_rfl
def kc2 : Tryz.pinned.checked.prog.mainIs = some (true, "330b38cdc88eef3d1651c866e603503e3bb25d4836d15ad165312409055a2da8".toList) := by kernel_rfl
def kc3:true=Tryz.pinned.checked.prog.looks []:=by kernel_rfl
def kc4:([22,22,3].all fun u=>!Tryz.prog.wantsStandIn u)=true:=by kernel_rfl
def kc5:false=Rows.escrowConservesRow.goesBy Tryz.pinned.checked.prog:=by kernel_rfl
def kc6 : Tryz.prog.funcNamed "worldmint/worldmintlaw22.EscrowConserves" = some 3 := by kernel_rfl
