/- Lemmas. -/
import Derived.Test.YtlgpgjdggilkgaaGreatDoorEcag
set_option linter.all false
namespace Go.Proofs.YtlgpgjdggilkgaaGreatDoor
open Go.V
instance:TyIS Tryz.prog 47 3:=TyIS.of krStd0 krStd0 krStd0 krStd0 krStd0
instance:TyIS Tryz.prog 137 2:=TyIS.of krStd0 krStd0 krStd0 krStd0 krStd0
instance:TyIS Tryz.prog 157 2:=TyIS.of krStd0 krStd0 krStd0 krStd0 krStd0
instance:TyArr Tryz.prog 419 128 5 1:=⟨krStd0,krStd0⟩
instance:TyG Tryz.prog 126 137 35 (ag none 0 0):=⟨krStd0,krStd0⟩
instance:KeyT Tryz.prog 137 kvP:=keyP
instance:TyG Tryz.prog 127 3 3 (ac 0):=⟨krStd0,krStd0⟩
instance:KeyT Tryz.prog 3 kvI:=keyI
instance:TyG Tryz.prog 128 3 35 (ag none 0 0):=⟨krStd0,krStd0⟩
instance:TyG Tryz.prog 143 3 141 (.pointer none):=⟨krStd0,krStd0⟩
instance:TyG Tryz.prog 144 3 151 (.pointer none):=⟨krStd0,krStd0⟩
instance:TyG Tryz.prog 145 157 4 (.bool false):=⟨krStd0,krStd0⟩
instance:TyG Tryz.prog 148 3 4 (.bool false):=⟨krStd0,krStd0⟩
instance:TyG Tryz.prog 251 3 249 (.nilFunc):=⟨krStd0,krStd0⟩
instance:TyG Tryz.prog 375 9 4 (.bool false):=⟨krStd0,krStd0⟩
instance:KeyT Tryz.prog 9 kvS:=keyS
end Go.Proofs.YtlgpgjdggilkgaaGreatDoor
namespace Go.V
section
def aa{φ ψ:Prop}(k:ψ)(h:Hid ψ→φ:=by intro k;(repeat1' (first|refine Kr ?_|((with_reducible apply GPK.a8);first|refine GPK.keep yC ?_|refine GPK.drop rfl ?_)|with_reducible apply G.seq));exact Hid.out k):φ:=h ⟨k⟩
def Ks{φ ψ:Prop}(k:ψ)(h:Hid ψ→φ:=by intro k;(repeat (first|refine aa ?_|intro zzz));(repeat revert zzz);exact Hid.out k):φ:=h ⟨k⟩
def dq{φ ψ:Prop}(k:ψ)(h:Hid ψ→φ:=by intro k;(repeat1' (first|refine Kr ?_|((with_reducible apply GPK.a8);first|refine GPK.keep yC ?_|refine GPK.drop rfl ?_)));exact Hid.out k):φ:=h ⟨k⟩
section
variable {P:Program}{N:Nat}{env:Env}{L:LH}{ty:TypeId}{v:Value}
