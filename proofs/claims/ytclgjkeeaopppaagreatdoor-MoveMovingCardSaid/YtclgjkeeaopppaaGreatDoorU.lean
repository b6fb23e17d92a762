/- Further facts on the tables of the types of this program, each computed by the kernel. -/
import Derived.Test.YtclgjkeeaopppaaGreatDoorV19
import Derived.Test.YtclgjkeeaopppaaGreatDoorT
import Derived.Test.YtclgjkeeaopppaaGreatDoorV9
import Derived.Test.YtclgjkeeaopppaaGreatDoorV12
import Derived.Test.YtclgjkeeaopppaaGreatDoorV13
import Derived.KernelRfl
namespace Go.Proofs.YtclgjkeeaopppaaGreatDoor
open Go.V
instance : TyIS Tryz.prog 56 2 := TyIS.of (by kernel_rfl) (by kernel_rfl) (by kernel_rfl) (by kernel_rfl) (by kernel_rfl)
instance : TyIS Tryz.prog 57 2 := TyIS.of (by kernel_rfl) (by kernel_rfl) (by kernel_rfl) (by kernel_rfl) (by kernel_rfl)
instance : TyIS Tryz.prog 73 3 := TyIS.of (by kernel_rfl) (by kernel_rfl) (by kernel_rfl) (by kernel_rfl) (by kernel_rfl)
instance : TyIS Tryz.prog 74 3 := TyIS.of (by kernel_rfl) (by kernel_rfl) (by kernel_rfl) (by kernel_rfl) (by kernel_rfl)
instance : TyIS Tryz.prog 82 2 := TyIS.of (by kernel_rfl) (by kernel_rfl) (by kernel_rfl) (by kernel_rfl) (by kernel_rfl)
instance : TyIS Tryz.prog 83 2 := TyIS.of (by kernel_rfl) (by kernel_rfl) (by kernel_rfl) (by kernel_rfl) (by kernel_rfl)
instance : TyIS Tryz.prog 84 2 := TyIS.of (by kernel_rfl) (by kernel_rfl) (by kernel_rfl) (by kernel_rfl) (by kernel_rfl)
instance : TyIS Tryz.prog 103 2 := TyIS.of (by kernel_rfl) (by kernel_rfl) (by kernel_rfl) (by kernel_rfl) (by kernel_rfl)
instance : TyIS Tryz.prog 104 2 := TyIS.of (by kernel_rfl) (by kernel_rfl) (by kernel_rfl) (by kernel_rfl) (by kernel_rfl)
instance : TyIS Tryz.prog 115 2 := TyIS.of (by kernel_rfl) (by kernel_rfl) (by kernel_rfl) (by kernel_rfl) (by kernel_rfl)
instance : TyIS Tryz.prog 116 2 := TyIS.of (by kernel_rfl) (by kernel_rfl) (by kernel_rfl) (by kernel_rfl) (by kernel_rfl)
instance : TyIS Tryz.prog 137 3 := TyIS.of (by kernel_rfl) (by kernel_rfl) (by kernel_rfl) (by kernel_rfl) (by kernel_rfl)
instance : TyIS Tryz.prog 138 3 := TyIS.of (by kernel_rfl) (by kernel_rfl) (by kernel_rfl) (by kernel_rfl) (by kernel_rfl)
instance : TyIS Tryz.prog 223 2 := TyIS.of (by kernel_rfl) (by kernel_rfl) (by kernel_rfl) (by kernel_rfl) (by kernel_rfl)
instance : TyIS Tryz.prog 224 2 := TyIS.of (by kernel_rfl) (by kernel_rfl) (by kernel_rfl) (by kernel_rfl) (by kernel_rfl)
instance : TyArr Tryz.prog 38 2 3 1 := ⟨by kernel_rfl, by kernel_rfl⟩
instance : TyArr Tryz.prog 297 128 5 1 := ⟨by kernel_rfl, by kernel_rfl⟩
instance : TyArr Tryz.prog 313 0 16 1 := ⟨by kernel_rfl, by kernel_rfl⟩
instance : TyG Tryz.prog 109 116 62 (.slice none 0 0) := ⟨by kernel_rfl, by kernel_rfl⟩
instance : KeyT Tryz.prog 116 kvP := keyP
instance : TyG Tryz.prog 110 3 3 (.int .i64 0) := ⟨by kernel_rfl, by kernel_rfl⟩
instance : KeyT Tryz.prog 3 kvI := keyI
instance : TyG Tryz.prog 112 3 62 (.slice none 0 0) := ⟨by kernel_rfl, by kernel_rfl⟩
instance : TyG Tryz.prog 242 9 4 (.bool false) := ⟨by kernel_rfl, by kernel_rfl⟩
instance : KeyT Tryz.prog 9 kvS := keyS
end Go.Proofs.YtclgjkeeaopppaaGreatDoor
