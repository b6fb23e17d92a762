/- The closed facts of the row of 'EscrowDeadline', each computed by the kernel. No condition. -/
import Derived.Test.YtlgpgjdggilkgaaGreatDoorRows
import Derived.Test.YtlgpgjdggilkgaaGreatDoorCards
import Derived.JoinedOf
import Derived.SevenTiedAt
set_option linter.all false
namespace Go.Proofs.YtlgpgjdggilkgaaGreatDoor.escrowDeadline
open Go.ChangeShapes Go.WideShapes
def Ob{a b:Bool}(h:a=true)(k:b=true):(a && b)=true:=by rw[h,k];rfl
def XT:(Rows.escrowDeadlineRow.wf (OpenSpec.ofChange Rows.escrowDeadlineSpec))=true:=by kernel_rfl
def XU:(laidOutB Tryz.pinned.checked.prog)=true:=by kernel_rfl
def XV:(mapsRowed Tryz.pinned.checked.prog)=true:=by kernel_rfl
def XW:(Tryz.f5.params.all (Tryz.pinned.checked.prog.readableRec ·))=true:=by kernel_rfl
def XX:(namedTie Tryz.pinned.checked.prog Rows.escrowDeadlineRow.named Rows.escrowDeadlineSpec.vars)=true:=by kernel_rfl
def XY:((Rows.escrowDeadlineRow.stops == []))=true:=by kernel_rfl
def XZ:((Tryz.pinned.checked.prog.stops == []))=true:=by kernel_rfl
def X0:((Rows.escrowDeadlineRow.knobs == []))=true:=by kernel_rfl
def X1:((Tryz.pinned.checked.prog.stopKnobs == []))=true:=by kernel_rfl
def X2:((Rows.escrowDeadlineRow.inPlace == Tryz.pinned.checked.prog.inPlace 5))=true:=by kernel_rfl
def X6:((Rows.escrowDeadlineRow.unfollowed == Tryz.pinned.checked.prog.unfollowed 5))=true:=by kernel_rfl
def X7:((Rows.escrowDeadlineRow.recurses == Tryz.pinned.checked.prog.recurses 5))=true:=by kernel_rfl
def X8:((Rows.escrowDeadlineRow.named == Tryz.pinned.checked.prog.varsNamed 5))=true:=by kernel_rfl
def X9:((Rows.escrowDeadlineRow.maps == (Tryz.f5.params.toList++Rows.escrowDeadlineSpec.plain.varTypes Tryz.pinned.checked.prog).any (Tryz.pinned.checked.prog.mapsRec ·)))=true:=by kernel_rfl
def Ya:((Rows.escrowDeadlineRow.ifaces == (Tryz.f5.params.toList++Rows.escrowDeadlineSpec.plain.varTypes Tryz.pinned.checked.prog).any (Tryz.pinned.checked.prog.ifacesRec ·)))=true:=by kernel_rfl
def Yb:((Rows.escrowDeadlineRow.mapsOut == Tryz.pinned.checked.prog.mapsAmong Tryz.f5.resultTypes.toList))=true:=by kernel_rfl
def Yc:((Rows.escrowDeadlineRow.loops == (Tryz.f5.params.toList++Rows.escrowDeadlineSpec.plain.varTypes Tryz.pinned.checked.prog).any (Tryz.pinned.checked.prog.loopsFrom ·)))=true:=by kernel_rfl
def Yd:((Rows.escrowDeadlineRow.wideKeys == (Tryz.f5.params.toList++Rows.escrowDeadlineSpec.plain.varTypes Tryz.pinned.checked.prog++Tryz.f5.resultTypes.toList).any (Tryz.pinned.checked.prog.wideKeysFrom ·)))=true:=by kernel_rfl
def Ye:(Rows.escrowDeadlineSpec.vars.all (Tryz.pinned.checked.prog.varReadable ·))=true:=by kernel_rfl
def Yf:(Tryz.f5.resultTypes.all (fun t=>Tryz.pinned.checked.prog.readableRec t && decide (t<Tryz.pinned.checked.prog.types.size)))=true:=by kernel_rfl
def Yg:((Rows.escrowDeadlineRow.ifacesOut == Tryz.f5.resultTypes.toList.any (Tryz.pinned.checked.prog.ifacesRec ·)))=true:=by kernel_rfl
def Yh:((Rows.escrowDeadlineRow.loopsOut == Tryz.f5.resultTypes.toList.any (Tryz.pinned.checked.prog.loopsFrom ·)))=true:=by kernel_rfl
def Yi:((Rows.escrowDeadlineRow.plainKeys == Tryz.pinned.checked.prog.plainKeys))=true:=by kernel_rfl
def Yj:(Rows.escrowDeadlineRow.shortTexts.isNone)=true:=by kernel_rfl
def Yx:(Tryz.pinned.checked.prog.stopsHeard)=true:=by kernel_rfl
def Yy:(Tryz.pinned.checked.prog.mayEnter)=true:=by kernel_rfl
def Yz:((Rows.escrowDeadlineRow.lifted == Tryz.pinned.checked.prog.liftsFinal))=true:=by kernel_rfl
def YA:((Tryz.pinned.checked.prog.make == some Rows.escrowDeadlineRow.make))=true:=by kernel_rfl
def YB:((Rows.escrowDeadlineRow.kinds == (if Rows.escrowDeadlineRow.domain.isEmpty then[] else Tryz.f5.params.toList.map fun t=>match Tryz.pinned.checked.prog.underlying t with|some (.int k)=>some k|_=>none)))=true:=by kernel_rfl
def YC:((Rows.escrowDeadlineRow.pinned == Rows.escrowDeadlineRow.pinnedBy))=true:=by kernel_rfl
def YD:((Rows.escrowDeadlineRow.veiled == (Tryz.f5.params.toList++Rows.escrowDeadlineSpec.plain.varTypes Tryz.pinned.checked.prog++Tryz.f5.resultTypes.toList).any (Tryz.pinned.checked.prog.veiledRec ·)))=true:=by kernel_rfl
def YE:(Rows.escrowDeadlineRow.veiledFits Tryz.pinned.checked.prog Tryz.f5.params.toList (Tryz.f5.params.toList++Rows.escrowDeadlineSpec.plain.varTypes Tryz.pinned.checked.prog++Tryz.f5.resultTypes.toList))=true:=by kernel_rfl
set_option maxRecDepth 100000 in
def closed:joinedFacts Tryz.pinned.checked.prog 5 Tryz.f5 Rows.escrowDeadlineSpec Rows.escrowDeadlineRow=true:=by
 unfold joinedFacts;exact(Ob (Ob (Ob (Ob (Ob (Ob (Ob (Ob (Ob (Ob (Ob (Ob (Ob (Ob (Ob (Ob (Ob (Ob (Ob (Ob (Ob (Ob (Ob (Ob (Ob (Ob (Ob (Ob (Ob (Ob (Ob XT XU) XV) XW) XX) XY) XZ) X0) X1) X2) X6) X7) X8) X9) Ya) Yb) Yc) Yd) Ye) Yf) Yg) Yh) Yi) Yj) Yx) Yy) Yz) YA) YB) YC) YD) YE)
def YF:Rows.escrowDeadlineRow.wfByText (OpenSpec.ofChange Rows.escrowDeadlineSpec)=true:=by kernel_rfl
def YG : Tryz.pinned.checked.prog.mainIs = some (true, "330b38cdc88eef3d1651c866e603503e3bb25d4836d15ad165312409055a2da8".toList) := by kernel_rfl
def YH:true=Tryz.pinned.checked.prog.looks []:=by kernel_rfl
def YI:([22,22,3,3].all fun u=>!Tryz.prog.wantsStandIn u)=true:=by kernel_rfl
def YJ:false=Rows.escrowDeadlineRow.goesBy Tryz.pinned.checked.prog:=by kernel_rfl
def YK : Tryz.prog.funcNamed "worldmint/worldmintlaw22.EscrowDeadline" = some 5 := by kernel_rfl
