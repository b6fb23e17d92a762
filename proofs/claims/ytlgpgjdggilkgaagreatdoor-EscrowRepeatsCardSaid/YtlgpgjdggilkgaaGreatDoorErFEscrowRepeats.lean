/- The closed facts of the row of 'EscrowRepeats', each computed by the kernel. No condition. -/
import Derived.Test.YtlgpgjdggilkgaaGreatDoorRows
import Derived.Test.YtlgpgjdggilkgaaGreatDoorCards
import Derived.JoinedOf
import Derived.SevenTiedAt
set_option linter.all false
namespace Go.Proofs.YtlgpgjdggilkgaaGreatDoor.escrowRepeats
open Go.ChangeShapes Go.WideShapes
def JT{a b:Bool}(h:a=true)(k:b=true):(a && b)=true:=by rw[h,k];rfl
def SB:(Rows.escrowRepeatsRow.wf (OpenSpec.ofChange Rows.escrowRepeatsSpec))=true:=by kernel_rfl
def SC:(laidOutB Tryz.pinned.checked.prog)=true:=by kernel_rfl
def SD:(mapsRowed Tryz.pinned.checked.prog)=true:=by kernel_rfl
def SE:(Tryz.f7.params.all (Tryz.pinned.checked.prog.readableRec ·))=true:=by kernel_rfl
def SF:(namedTie Tryz.pinned.checked.prog Rows.escrowRepeatsRow.named Rows.escrowRepeatsSpec.vars)=true:=by kernel_rfl
def SG:((Rows.escrowRepeatsRow.stops == []))=true:=by kernel_rfl
def SH:((Tryz.pinned.checked.prog.stops == []))=true:=by kernel_rfl
def SI:((Rows.escrowRepeatsRow.knobs == []))=true:=by kernel_rfl
def SJ:((Tryz.pinned.checked.prog.stopKnobs == []))=true:=by kernel_rfl
def SK:((Rows.escrowRepeatsRow.inPlace == Tryz.pinned.checked.prog.inPlace 7))=true:=by kernel_rfl
def SM:((Rows.escrowRepeatsRow.unfollowed == Tryz.pinned.checked.prog.unfollowed 7))=true:=by kernel_rfl
def SN:((Rows.escrowRepeatsRow.recurses == Tryz.pinned.checked.prog.recurses 7))=true:=by kernel_rfl
def SO:((Rows.escrowRepeatsRow.named == Tryz.pinned.checked.prog.varsNamed 7))=true:=by kernel_rfl
def SQ:((Rows.escrowRepeatsRow.maps == (Tryz.f7.params.toList++Rows.escrowRepeatsSpec.plain.varTypes Tryz.pinned.checked.prog).any (Tryz.pinned.checked.prog.mapsRec ·)))=true:=by kernel_rfl
def SR:((Rows.escrowRepeatsRow.ifaces == (Tryz.f7.params.toList++Rows.escrowRepeatsSpec.plain.varTypes Tryz.pinned.checked.prog).any (Tryz.pinned.checked.prog.ifacesRec ·)))=true:=by kernel_rfl
def SS:((Rows.escrowRepeatsRow.mapsOut == Tryz.pinned.checked.prog.mapsAmong Tryz.f7.resultTypes.toList))=true:=by kernel_rfl
def SU:((Rows.escrowRepeatsRow.loops == (Tryz.f7.params.toList++Rows.escrowRepeatsSpec.plain.varTypes Tryz.pinned.checked.prog).any (Tryz.pinned.checked.prog.loopsFrom ·)))=true:=by kernel_rfl
def SX:((Rows.escrowRepeatsRow.wideKeys == (Tryz.f7.params.toList++Rows.escrowRepeatsSpec.plain.varTypes Tryz.pinned.checked.prog++Tryz.f7.resultTypes.toList).any (Tryz.pinned.checked.prog.wideKeysFrom ·)))=true:=by kernel_rfl
def SY:(Rows.escrowRepeatsSpec.vars.all (Tryz.pinned.checked.prog.varReadable ·))=true:=by kernel_rfl
def SZ:(Tryz.f7.resultTypes.all (fun t=>Tryz.pinned.checked.prog.readableRec t && decide (t<Tryz.pinned.checked.prog.types.size)))=true:=by kernel_rfl
def S3:((Rows.escrowRepeatsRow.ifacesOut == Tryz.f7.resultTypes.toList.any (Tryz.pinned.checked.prog.ifacesRec ·)))=true:=by kernel_rfl
def S4:((Rows.escrowRepeatsRow.loopsOut == Tryz.f7.resultTypes.toList.any (Tryz.pinned.checked.prog.loopsFrom ·)))=true:=by kernel_rfl
def S5:((Rows.escrowRepeatsRow.plainKeys == Tryz.pinned.checked.prog.plainKeys))=true:=by kernel_rfl
def S6:(Rows.escrowRepeatsRow.shortTexts.isNone)=true:=by kernel_rfl
def S7:(Tryz.pinned.checked.prog.stopsHeard)=true:=by kernel_rfl
def S8:(Tryz.pinned.checked.prog.mayEnter)=true:=by kernel_rfl
def S9:((Rows.escrowRepeatsRow.lifted == Tryz.pinned.checked.prog.liftsFinal))=true:=by kernel_rfl
def Ta:((Tryz.pinned.checked.prog.make == some Rows.escrowRepeatsRow.make))=true:=by kernel_rfl
def Tb:((Rows.escrowRepeatsRow.kinds == (if Rows.escrowRepeatsRow.domain.isEmpty then[] else Tryz.f7.params.toList.map fun t=>match Tryz.pinned.checked.prog.underlying t with|some (.int k)=>some k|_=>none)))=true:=by kernel_rfl
def Tc:((Rows.escrowRepeatsRow.pinned == Rows.escrowRepeatsRow.pinnedBy))=true:=by kernel_rfl
def Td:((Rows.escrowRepeatsRow.veiled == (Tryz.f7.params.toList++Rows.escrowRepeatsSpec.plain.varTypes Tryz.pinned.checked.prog++Tryz.f7.resultTypes.toList).any (Tryz.pinned.checked.prog.veiledRec ·)))=true:=by kernel_rfl
def Te:(Rows.escrowRepeatsRow.veiledFits Tryz.pinned.checked.prog Tryz.f7.params.toList (Tryz.f7.params.toList++Rows.escrowRepeatsSpec.plain.varTypes Tryz.pinned.checked.prog++Tryz.f7.resultTypes.toList))=true:=by kernel_rfl
set_option maxRecDepth 100000 in
def closed:joinedFacts Tryz.pinned.checked.prog 7 Tryz.f7 Rows.escrowRepeatsSpec Rows.escrowRepeatsRow=true:=by
 unfold joinedFacts;exact(JT (JT (JT (JT (JT (JT (JT (JT (JT (JT (JT (JT (JT (JT (JT (JT (JT (JT (JT (JT (JT (JT (JT (JT (JT (JT (JT (JT (JT (JT (JT SB SC) SD) SE) SF) SG) SH) SI) SJ) SK) SM) SN) SO) SQ) SR) SS) SU) SX) SY) SZ) S3) S4) S5) S6) S7) S8) S9) Ta) Tb) Tc) Td) Te)
def Tf:Rows.escrowRepeatsRow.wfByText (OpenSpec.ofChange Rows.escrowRepeatsSpec)=true:=by kernel_rfl
def Tg : Tryz.pinned.checked.prog.mainIs = some (true, "330b38cdc88eef3d1651c866e603503e3bb25d4836d15ad165312409055a2da8".toList) := by kernel_rfl
def Ti:true=Tryz.pinned.checked.prog.looks []:=by kernel_rfl
def Tj:([22,22,3,3].all fun u=>!Tryz.prog.wantsStandIn u)=true:=by kernel_rfl
def Tk:false=Rows.escrowRepeatsRow.goesBy Tryz.pinned.checked.prog:=by kernel_rfl
def Tl : Tryz.prog.funcNamed "worldmint/worldmintlaw22.EscrowRepeats" = some 7 := by kernel_rfl
