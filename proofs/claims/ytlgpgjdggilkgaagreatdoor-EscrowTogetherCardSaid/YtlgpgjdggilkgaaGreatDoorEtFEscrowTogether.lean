/- The closed facts of the row of 'EscrowTogether', each computed by the kernel. No condition. -/
import Derived.Test.YtlgpgjdggilkgaaGreatDoorRows
import Derived.Test.YtlgpgjdggilkgaaGreatDoorCards
import Derived.JoinedOf
import Derived.SevenTiedAt
set_option linter.all false
namespace Go.Proofs.YtlgpgjdggilkgaaGreatDoor.escrowTogether
open Go.ChangeShapes Go.WideShapes
def Oy{a b:Bool}(h:a=true)(k:b=true):(a && b)=true:=by rw[h,k];rfl
def Yd:(Rows.escrowTogetherRow.wf (OpenSpec.ofChange Rows.escrowTogetherSpec))=true:=by kernel_rfl
def Ye:(laidOutB Tryz.pinned.checked.prog)=true:=by kernel_rfl
def Yf:(mapsRowed Tryz.pinned.checked.prog)=true:=by kernel_rfl
def Yg:(Tryz.f4.params.all (Tryz.pinned.checked.prog.readableRec ·))=true:=by kernel_rfl
def Yh:(namedTie Tryz.pinned.checked.prog Rows.escrowTogetherRow.named Rows.escrowTogetherSpec.vars)=true:=by kernel_rfl
def Yi:((Rows.escrowTogetherRow.stops == []))=true:=by kernel_rfl
def Yj:((Tryz.pinned.checked.prog.stops == []))=true:=by kernel_rfl
def Yk:((Rows.escrowTogetherRow.knobs == []))=true:=by kernel_rfl
def Yl:((Tryz.pinned.checked.prog.stopKnobs == []))=true:=by kernel_rfl
def Ym:((Rows.escrowTogetherRow.inPlace == Tryz.pinned.checked.prog.inPlace 4))=true:=by kernel_rfl
def Yn:((Rows.escrowTogetherRow.unfollowed == Tryz.pinned.checked.prog.unfollowed 4))=true:=by kernel_rfl
def Yo:((Rows.escrowTogetherRow.recurses == Tryz.pinned.checked.prog.recurses 4))=true:=by kernel_rfl
def Yp:((Rows.escrowTogetherRow.named == Tryz.pinned.checked.prog.varsNamed 4))=true:=by kernel_rfl
def Yq:((Rows.escrowTogetherRow.maps == (Tryz.f4.params.toList++Rows.escrowTogetherSpec.plain.varTypes Tryz.pinned.checked.prog).any (Tryz.pinned.checked.prog.mapsRec ·)))=true:=by kernel_rfl
def Yr:((Rows.escrowTogetherRow.ifaces == (Tryz.f4.params.toList++Rows.escrowTogetherSpec.plain.varTypes Tryz.pinned.checked.prog).any (Tryz.pinned.checked.prog.ifacesRec ·)))=true:=by kernel_rfl
def Ys:((Rows.escrowTogetherRow.mapsOut == Tryz.pinned.checked.prog.mapsAmong Tryz.f4.resultTypes.toList))=true:=by kernel_rfl
def Yt:((Rows.escrowTogetherRow.loops == (Tryz.f4.params.toList++Rows.escrowTogetherSpec.plain.varTypes Tryz.pinned.checked.prog).any (Tryz.pinned.checked.prog.loopsFrom ·)))=true:=by kernel_rfl
def Yu:((Rows.escrowTogetherRow.wideKeys == (Tryz.f4.params.toList++Rows.escrowTogetherSpec.plain.varTypes Tryz.pinned.checked.prog++Tryz.f4.resultTypes.toList).any (Tryz.pinned.checked.prog.wideKeysFrom ·)))=true:=by kernel_rfl
def Yv:(Rows.escrowTogetherSpec.vars.all (Tryz.pinned.checked.prog.varReadable ·))=true:=by kernel_rfl
def Yw:(Tryz.f4.resultTypes.all (fun t=>Tryz.pinned.checked.prog.readableRec t && decide (t<Tryz.pinned.checked.prog.types.size)))=true:=by kernel_rfl
def Yx:((Rows.escrowTogetherRow.ifacesOut == Tryz.f4.resultTypes.toList.any (Tryz.pinned.checked.prog.ifacesRec ·)))=true:=by kernel_rfl
def Yy:((Rows.escrowTogetherRow.loopsOut == Tryz.f4.resultTypes.toList.any (Tryz.pinned.checked.prog.loopsFrom ·)))=true:=by kernel_rfl
def Yz:((Rows.escrowTogetherRow.plainKeys == Tryz.pinned.checked.prog.plainKeys))=true:=by kernel_rfl
def YA:(Rows.escrowTogetherRow.shortTexts.isNone)=true:=by kernel_rfl
def YB:(Tryz.pinned.checked.prog.stopsHeard)=true:=by kernel_rfl
def YC:(Tryz.pinned.checked.prog.mayEnter)=true:=by kernel_rfl
def YD:((Rows.escrowTogetherRow.lifted == Tryz.pinned.checked.prog.liftsFinal))=true:=by kernel_rfl
def YE:((Tryz.pinned.checked.prog.make == some Rows.escrowTogetherRow.make))=true:=by kernel_rfl
def YF:((Rows.escrowTogetherRow.kinds == (if Rows.escrowTogetherRow.domain.isEmpty then[] else Tryz.f4.params.toList.map fun t=>match Tryz.pinned.checked.prog.underlying t with|some (.int k)=>some k|_=>none)))=true:=by kernel_rfl
def YG:((Rows.escrowTogetherRow.pinned == Rows.escrowTogetherRow.pinnedBy))=true:=by kernel_rfl
def YH:((Rows.escrowTogetherRow.veiled == (Tryz.f4.params.toList++Rows.escrowTogetherSpec.plain.varTypes Tryz.pinned.checked.prog++Tryz.f4.resultTypes.toList).any (Tryz.pinned.checked.prog.veiledRec ·)))=true:=by kernel_rfl
def YI:(Rows.escrowTogetherRow.veiledFits Tryz.pinned.checked.prog Tryz.f4.params.toList (Tryz.f4.params.toList++Rows.escrowTogetherSpec.plain.varTypes Tryz.pinned.checked.prog++Tryz.f4.resultTypes.toList))=true:=by kernel_rfl
set_option maxRecDepth 100000 in
def closed:joinedFacts Tryz.pinned.checked.prog 4 Tryz.f4 Rows.escrowTogetherSpec Rows.escrowTogetherRow=true:=by
 unfold joinedFacts;exact(Oy (Oy (Oy (Oy (Oy (Oy (Oy (Oy (Oy (Oy (Oy (Oy (Oy (Oy (Oy (Oy (Oy (Oy (Oy (Oy (Oy (Oy (Oy (Oy (Oy (Oy (Oy (Oy (Oy (Oy (Oy Yd Ye) Yf) Yg) Yh) Yi) Yj) Yk) Yl) Ym) Yn) Yo) Yp) Yq) Yr) Ys) Yt) Yu) Yv) Yw) Yx) Yy) Yz) YA) YB) YC) YD) YE) YF) YG) YH) YI)
def YJ:Rows.escrowTogetherRow.wfByText (OpenSpec.ofChange Rows.escrowTogetherSpec)=true:=by kernel_rfl
def YK : Tryz.pinned.checked.prog.mainIs = some (true, "330b38cdc88eef3d1651c866e603503e3bb25d4836d15ad165312409055a2da8".toList) := by kernel_rfl
def YL:true=Tryz.pinned.checked.prog.looks []:=by kernel_rfl
def YM:([22,22,3].all fun u=>!Tryz.prog.wantsStandIn u)=true:=by kernel_rfl
def YN:false=Rows.escrowTogetherRow.goesBy Tryz.pinned.checked.prog:=by kernel_rfl
def YO : Tryz.prog.funcNamed "worldmint/worldmintlaw22.EscrowTogether" = some 4 := by kernel_rfl
