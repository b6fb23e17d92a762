/- Facts on the tables of the types of this program, each computed by the kernel. -/
import Derived.Test.YtommnllbflbdmaaGreatDoorCatad
import Derived.Test.YtommnllbflbdmaaGreatDoorProg
import Derived.KernelRfl
set_option linter.all false
namespace Go.Proofs.YtommnllbflbdmaaGreatDoor
open Go.V
noncomputable abbrev ai:=Tryz.prog
instance:TyOne ai 3:=⟨fun _=>krStd0,krStd0⟩
instance:TyInt ai 3 .i64:=⟨krStd0⟩
instance:ZeroT ai 3 [ac 0]:=⟨krStd0⟩
instance:TyOne ai 4:=⟨fun _=>krStd0,krStd0⟩
instance:TyBool ai 4:=⟨krStd0⟩
instance:ZeroT ai 4 [.bool false]:=⟨krStd0⟩
instance:TyOne ai 5:=⟨fun _=>krStd0,krStd0⟩
instance:TyInt ai 5 .u8:=⟨krStd0⟩
instance:TyOne ai 9:=⟨fun _=>krStd0,krStd0⟩
instance:TyStr ai 9:=⟨krStd0⟩
instance:TyOne ai 22:=⟨fun _=>krStd0,krStd0⟩
instance:TySl ai 22 3 1 8 [ac 0]:=⟨krStd0,krStd0,by decide,by decide⟩
instance:ZeroT ai 22 [ae none 0 0]:=⟨krStd0⟩
instance:TyOne ai 26:=⟨fun _=>krStd0,krStd0⟩
instance:TySl ai 26 65 7 72 [ac 0,ac 0,ac 0,ac 0,ac 0,ac 0,ae none 0 0]:=⟨krStd0,krStd0,by decide,by decide⟩
instance:TyOne ai 28:=⟨fun _=>krStd0,krStd0⟩
instance:TySl ai 28 147 7 48 [.string ⟨#[]⟩,.bool false,.bool false,.bool false,ac 0,ac 0,ac 0]:=⟨krStd0,krStd0,by decide,by decide⟩
instance:TyOne ai 29:=⟨fun _=>krStd0,krStd0⟩
instance:TySl ai 29 79 9 128 [.string ⟨#[]⟩,.bool false,ac 0,ac 0,ac 0,ac 0,ae none 0 0,ae none 0 0,ae none 0 0]:=⟨krStd0,krStd0,by decide,by decide⟩
instance:TyOne ai 30:=⟨fun _=>krStd0,krStd0⟩
instance:TySl ai 30 153 2 40 [.string ⟨#[]⟩,ae none 0 0]:=⟨krStd0,krStd0,by decide,by decide⟩
instance:TyOne ai 31:=⟨fun _=>krStd0,krStd0⟩
instance:TySl ai 31 160 2 40 [.string ⟨#[]⟩,ae none 0 0]:=⟨krStd0,krStd0,by decide,by decide⟩
instance:TyAgg ai 33 4:=⟨fun _=>krStd0,krStd0⟩
instance:Fld ai 33 0 0:=Fld.of 0 krStd0
instance:Fld ai 33 1 1:=Fld.of 0 krStd0
instance:Fld ai 33 2 2:=Fld.of 0 krStd0
instance:Fld ai 33 3 3:=Fld.of 0 krStd0
instance:TyStruct ai 33 [(0,1),(1,1),(2,1),(3,1)]:=⟨krStd0⟩
instance:ZeroT ai 33 [ae none 0 0,ae none 0 0,ae none 0 0,ae none 0 0]:=⟨krStd0⟩
instance:TyOne ai 35:=⟨fun _=>krStd0,krStd0⟩
instance:TySl ai 35 89 11 120 [ac 0,ac 0,ac 0,ac 0,ac 0,ac 0,ac 0,ac 0,ac 0,ae none 0 0,ae none 0 0]:=⟨krStd0,krStd0,by decide,by decide⟩
instance:TyOne ai 42:=⟨fun _=>krStd0,krStd0⟩
instance:ZeroT ai 42 [ac 0]:=⟨krStd0⟩
instance:TyAgg ai 46 3:=⟨fun _=>krStd0,krStd0⟩
instance:TyStruct ai 46 [(0,1),(1,1),(2,1)]:=⟨krStd0⟩
instance:ZeroT ai 46 [ac 0,ac 0,ac 0]:=⟨krStd0⟩
instance:TySl ai 53 112 3 24 [ac 0,ac 0,ac 0]:=⟨krStd0,krStd0,by decide,by decide⟩
instance:TyOne ai 58:=⟨fun _=>krStd0,krStd0⟩
instance:TyPtr ai 58:=⟨⟨126,krStd0⟩⟩
instance:TyOne ai 63:=⟨fun _=>krStd0,krStd0⟩
instance:TySl ai 63 74 5 56 [ac 0,ac 0,ac 0,ac 0,ae none 0 0]:=⟨krStd0,krStd0,by decide,by decide⟩
instance:TyAgg ai 65 7:=⟨fun _=>krStd0,krStd0⟩
instance:Fld ai 65 0 0:=Fld.of 0 krStd0
instance:Fld ai 65 1 1:=Fld.of 0 krStd0
instance:Fld ai 65 2 2:=Fld.of 0 krStd0
instance:Fld ai 65 3 3:=Fld.of 0 krStd0
instance:Fld ai 65 4 4:=Fld.of 0 krStd0
instance:Fld ai 65 5 5:=Fld.of 0 krStd0
instance:Fld ai 65 6 6:=Fld.of 0 krStd0
instance:TyStruct ai 65 [(0,1),(1,1),(2,1),(3,1),(4,1),(5,1),(6,1)]:=⟨krStd0⟩
instance:ZeroT ai 65 [ac 0,ac 0,ac 0,ac 0,ac 0,ac 0,ae none 0 0]:=⟨krStd0⟩
instance:TyOne ai 68:=⟨fun _=>krStd0,krStd0⟩
instance:TyOne ai 72:=⟨fun _=>krStd0,krStd0⟩
instance:TySl ai 72 91 3 24 [ac 0,ac 0,ac 0]:=⟨krStd0,krStd0,by decide,by decide⟩
instance:ZeroT ai 72 [ae none 0 0]:=⟨krStd0⟩
instance:TyAgg ai 74 5:=⟨fun _=>krStd0,krStd0⟩
instance:Fld ai 74 0 0:=Fld.of 0 krStd0
instance:Fld ai 74 1 1:=Fld.of 0 krStd0
instance:Fld ai 74 2 2:=Fld.of 0 krStd0
instance:Fld ai 74 3 3:=Fld.of 0 krStd0
instance:Fld ai 74 4 4:=Fld.of 0 krStd0
instance:TyStruct ai 74 [(0,1),(1,1),(2,1),(3,1),(4,1)]:=⟨krStd0⟩
instance:ZeroT ai 74 [ac 0,ac 0,ac 0,ac 0,ae none 0 0]:=⟨krStd0⟩
instance:TyOne ai 77:=⟨fun _=>krStd0,krStd0⟩
instance:TySl ai 77 81 2 16 [ac 0,ac 0]:=⟨krStd0,krStd0,by decide,by decide⟩
instance:TyAgg ai 79 9:=⟨fun _=>krStd0,krStd0⟩
instance:Fld ai 79 0 0:=Fld.of 0 krStd0
instance:Fld ai 79 1 1:=Fld.of 0 krStd0
instance:Fld ai 79 2 2:=Fld.of 0 krStd0
instance:Fld ai 79 3 3:=Fld.of 0 krStd0
instance:Fld ai 79 4 4:=Fld.of 0 krStd0
instance:Fld ai 79 5 5:=Fld.of 0 krStd0
instance:Fld ai 79 6 6:=Fld.of 0 krStd0
instance:Fld ai 79 7 7:=Fld.of 0 krStd0
instance:Fld ai 79 8 8:=Fld.of 0 krStd0
instance:TyStruct ai 79 [(0,1),(1,1),(2,1),(3,1),(4,1),(5,1),(6,1),(7,1),(8,1)]:=⟨krStd0⟩
instance:ZeroT ai 79 [.string ⟨#[]⟩,.bool false,ac 0,ac 0,ac 0,ac 0,ae none 0 0,ae none 0 0,ae none 0 0]:=⟨krStd0⟩
instance:TyAgg ai 81 2:=⟨fun _=>krStd0,krStd0⟩
instance:Fld ai 81 0 0:=Fld.of 0 krStd0
instance:Fld ai 81 1 1:=Fld.of 0 krStd0
instance:TyStruct ai 81 [(0,1),(1,1)]:=⟨krStd0⟩
instance:ZeroT ai 81 [ac 0,ac 0]:=⟨krStd0⟩
instance:TyAgg ai 89 11:=⟨fun _=>krStd0,krStd0⟩
instance:Fld ai 89 0 0:=Fld.of 0 krStd0
instance:Fld ai 89 1 1:=Fld.of 0 krStd0
instance:Fld ai 89 2 2:=Fld.of 0 krStd0
instance:Fld ai 89 3 3:=Fld.of 0 krStd0
instance:Fld ai 89 4 4:=Fld.of 0 krStd0
instance:Fld ai 89 5 5:=Fld.of 0 krStd0
instance:Fld ai 89 6 6:=Fld.of 0 krStd0
instance:Fld ai 89 7 7:=Fld.of 0 krStd0
instance:Fld ai 89 8 8:=Fld.of 0 krStd0
instance:Fld ai 89 9 9:=Fld.of 0 krStd0
instance:Fld ai 89 10 10:=Fld.of 0 krStd0
instance:TyStruct ai 89 [(0,1),(1,1),(2,1),(3,1),(4,1),(5,1),(6,1),(7,1),(8,1),(9,1),(10,1)]:=⟨krStd0⟩
instance:ZeroT ai 89 [ac 0,ac 0,ac 0,ac 0,ac 0,ac 0,ac 0,ac 0,ac 0,ae none 0 0,ae none 0 0]:=⟨krStd0⟩
instance:TyAgg ai 91 3:=⟨fun _=>krStd0,krStd0⟩
instance:Fld ai 91 0 0:=Fld.of 0 krStd0
instance:Fld ai 91 1 1:=Fld.of 0 krStd0
instance:Fld ai 91 2 2:=Fld.of 0 krStd0
instance:TyStruct ai 91 [(0,1),(1,1),(2,1)]:=⟨krStd0⟩
instance:ZeroT ai 91 [ac 0,ac 0,ac 0]:=⟨krStd0⟩
instance:TyInt ai 100 .u64:=⟨krStd0⟩
instance:TyOne ai 101:=⟨fun _=>krStd0,krStd0⟩
instance:TyOne ai 102:=⟨fun _=>krStd0,krStd0⟩
instance:TyOne ai 103:=⟨fun _=>krStd0,krStd0⟩
instance:Fld ai 105 0 0:=Fld.of 0 krStd0
instance:Fld ai 105 1 1:=Fld.of 3 krStd0
instance:Fld ai 105 2 5:=Fld.of 0 krStd0
instance:Fld ai 105 3 6:=Fld.of 0 krStd0
instance:Fld ai 105 4 7:=Fld.of 0 krStd0
instance:Fld ai 105 5 8:=Fld.of 0 krStd0
instance:Fld ai 105 6 9:=Fld.of 0 krStd0
instance:Fld ai 105 7 10:=Fld.of 0 krStd0
instance:Fld ai 105 8 11:=Fld.of 0 krStd0
instance:TyStruct ai 105 [(0,1),(1,4),(5,1),(6,1),(7,1),(8,1),(9,1),(10,1),(11,1)]:=⟨krStd0⟩
instance:ZeroT ai 105 [ac 0,ae none 0 0,ae none 0 0,ae none 0 0,ae none 0 0,ac 0,ac 0,.map none,.map none,ae none 0 0,.map none,.map none]:=⟨krStd0⟩
instance:Fld ai 112 0 0:=Fld.of 0 krStd0
instance:Fld ai 112 1 1:=Fld.of 0 krStd0
instance:Fld ai 112 2 2:=Fld.of 0 krStd0
instance:TyStruct ai 112 [(0,1),(1,1),(2,1)]:=⟨krStd0⟩
instance:ZeroT ai 112 [ac 0,ac 0,ac 0]:=⟨krStd0⟩
instance:TyOne ai 115:=⟨fun _=>krStd0,krStd0⟩
instance:ZeroT ai 115 [.map none]:=⟨krStd0⟩
instance:TyAgg ai 116 2:=⟨fun _=>krStd0,krStd0⟩
instance:ZeroT ai 116 [ac 0,ac 0]:=⟨krStd0⟩
instance:TyOne ai 124:=⟨fun _=>krStd0,krStd0⟩
instance:Fld ai 126 0 0:=Fld.of 0 krStd0
instance:Fld ai 126 1 1:=Fld.of 3 krStd0
instance:Fld ai 126 2 5:=Fld.of 0 krStd0
instance:Fld ai 126 3 6:=Fld.of 0 krStd0
instance:Fld ai 126 4 7:=Fld.of 0 krStd0
instance:Fld ai 126 5 8:=Fld.of 0 krStd0
instance:Fld ai 126 6 9:=Fld.of 0 krStd0
instance:Fld ai 126 7 10:=Fld.of 0 krStd0
instance:TyStruct ai 126 [(0,1),(1,4),(5,1),(6,1),(7,1),(8,1),(9,1),(10,1)]:=⟨krStd0⟩
instance:ZeroT ai 126 [ac 0,ae none 0 0,ae none 0 0,ae none 0 0,ae none 0 0,.map none,.map none,ae none 0 0,ae none 0 0,.map none,.map none]:=⟨krStd0⟩
instance:Fld ai 131 0 0:=Fld.of 0 krStd0
instance:Fld ai 131 1 1:=Fld.of 6 krStd0
instance:Fld ai 131 2 8:=Fld.of 0 krStd0
instance:Fld ai 131 3 9:=Fld.of 0 krStd0
instance:Fld ai 131 4 10:=Fld.of 0 krStd0
instance:Fld ai 131 5 11:=Fld.of 0 krStd0
instance:Fld ai 131 6 12:=Fld.of 0 krStd0
instance:Fld ai 131 7 13:=Fld.of 0 krStd0
instance:TyStruct ai 131 [(0,1),(1,7),(8,1),(9,1),(10,1),(11,1),(12,1),(13,1)]:=⟨krStd0⟩
instance:ZeroT ai 131 [.pointer none,ac 0,ac 0,ac 0,ac 0,ac 0,ac 0,ae none 0 0,.map none,.map none,.map none,.map none,ae none 0 0,ae none 0 0]:=⟨krStd0⟩
instance:TyAgg ai 133 2:=⟨fun _=>krStd0,krStd0⟩
instance:TyStruct ai 133 [(0,1),(1,1)]:=⟨krStd0⟩
instance:ZeroT ai 133 [ac 0,ac 0]:=⟨krStd0⟩
instance:Fld ai 143 0 0:=Fld.of 0 krStd0
instance:Fld ai 143 1 1:=Fld.of 0 krStd0
instance:TyStruct ai 143 [(0,1),(1,1)]:=⟨krStd0⟩
instance:ZeroT ai 143 [ae none 0 0,ac 0]:=⟨krStd0⟩
instance:TyOne ai 144:=⟨fun _=>krStd0,krStd0⟩
instance:TySl ai 144 9 1 16 [.string ⟨#[]⟩]:=⟨krStd0,krStd0,by decide,by decide⟩
instance:TyAgg ai 147 7:=⟨fun _=>krStd0,krStd0⟩
instance:Fld ai 147 0 0:=Fld.of 0 krStd0
instance:Fld ai 147 1 1:=Fld.of 0 krStd0
instance:Fld ai 147 2 2:=Fld.of 0 krStd0
instance:Fld ai 147 3 3:=Fld.of 0 krStd0
instance:Fld ai 147 4 4:=Fld.of 0 krStd0
instance:Fld ai 147 5 5:=Fld.of 0 krStd0
instance:Fld ai 147 6 6:=Fld.of 0 krStd0
instance:TyStruct ai 147 [(0,1),(1,1),(2,1),(3,1),(4,1),(5,1),(6,1)]:=⟨krStd0⟩
instance:ZeroT ai 147 [.string ⟨#[]⟩,.bool false,.bool false,.bool false,ac 0,ac 0,ac 0]:=⟨krStd0⟩
instance:TyOne ai 151:=⟨fun _=>krStd0,krStd0⟩
instance:TySl ai 151 155 2 32 [ac 0,ae none 0 0]:=⟨krStd0,krStd0,by decide,by decide⟩
instance:TyAgg ai 153 2:=⟨fun _=>krStd0,krStd0⟩
instance:Fld ai 153 0 0:=Fld.of 0 krStd0
instance:Fld ai 153 1 1:=Fld.of 0 krStd0
instance:TyStruct ai 153 [(0,1),(1,1)]:=⟨krStd0⟩
instance:ZeroT ai 153 [.string ⟨#[]⟩,ae none 0 0]:=⟨krStd0⟩
instance:TyAgg ai 155 2:=⟨fun _=>krStd0,krStd0⟩
instance:Fld ai 155 0 0:=Fld.of 0 krStd0
instance:Fld ai 155 1 1:=Fld.of 0 krStd0
instance:TyStruct ai 155 [(0,1),(1,1)]:=⟨krStd0⟩
instance:ZeroT ai 155 [ac 0,ae none 0 0]:=⟨krStd0⟩
instance:TyAgg ai 157 2:=⟨fun _=>krStd0,krStd0⟩
instance:Fld ai 157 0 0:=Fld.of 0 krStd0
instance:Fld ai 157 1 1:=Fld.of 0 krStd0
instance:TyStruct ai 157 [(0,1),(1,1)]:=⟨krStd0⟩
instance:ZeroT ai 157 [ac 0,ac 0]:=⟨krStd0⟩
instance:TyOne ai 158:=⟨fun _=>krStd0,krStd0⟩
instance:TySl ai 158 157 2 16 [ac 0,ac 0]:=⟨krStd0,krStd0,by decide,by decide⟩
instance:TyAgg ai 160 2:=⟨fun _=>krStd0,krStd0⟩
instance:Fld ai 160 0 0:=Fld.of 0 krStd0
instance:Fld ai 160 1 1:=Fld.of 0 krStd0
instance:TyStruct ai 160 [(0,1),(1,1)]:=⟨krStd0⟩
instance:ZeroT ai 160 [.string ⟨#[]⟩,ae none 0 0]:=⟨krStd0⟩
instance:TySl ai 166 144 1 24 [ae none 0 0]:=⟨krStd0,krStd0,by decide,by decide⟩
instance:TySl ai 175 77 1 24 [ae none 0 0]:=⟨krStd0,krStd0,by decide,by decide⟩
instance:TySl ai 177 4 1 1 [.bool false]:=⟨krStd0,krStd0,by decide,by decide⟩
instance:TySl ai 178 42 1 8 [ac 0]:=⟨krStd0,krStd0,by decide,by decide⟩
instance:TyOne ai 195:=⟨fun _=>krStd0,krStd0⟩
instance:TySl ai 210 214 4 40 [ac 0,.string ⟨#[]⟩,ac 0,ac 0]:=⟨krStd0,krStd0,by decide,by decide⟩
instance:TyAgg ai 214 4:=⟨fun _=>krStd0,krStd0⟩
instance:Fld ai 214 0 0:=Fld.of 0 krStd0
instance:Fld ai 214 1 1:=Fld.of 0 krStd0
instance:Fld ai 214 2 2:=Fld.of 0 krStd0
instance:TyStruct ai 214 [(0,1),(1,1),(2,1),(3,1)]:=⟨krStd0⟩
instance:ZeroT ai 214 [ac 0,.string ⟨#[]⟩,ac 0,ac 0]:=⟨krStd0⟩
instance:TyOne ai 238:=⟨fun _=>krStd0,krStd0⟩
instance:TyInt ai 238 .u64:=⟨krStd0⟩
instance:TyOne ai 255:=⟨fun _=>krStd0,krStd0⟩
instance:ZeroT ai 255 [.nilFunc]:=⟨krStd0⟩
instance:TyOne ai 265:=⟨fun _=>krStd0,krStd0⟩
instance:TyAgg ai 267 4:=⟨fun _=>krStd0,krStd0⟩
instance:Fld ai 267 0 0:=Fld.of 0 krStd0
instance:Fld ai 267 1 1:=Fld.of 0 krStd0
instance:Fld ai 267 2 2:=Fld.of 0 krStd0
instance:Fld ai 267 3 3:=Fld.of 0 krStd0
instance:TyStruct ai 267 [(0,1),(1,1),(2,1),(3,1)]:=⟨krStd0⟩
instance:ZeroT ai 267 [.nilFunc,.nilFunc,.bool false,.nilFunc]:=⟨krStd0⟩
instance:TySl ai 285 290 2 16 [ac 0,.int .u64 0]:=⟨krStd0,krStd0,by decide,by decide⟩
instance:TyAgg ai 290 2:=⟨fun _=>krStd0,krStd0⟩
instance:Fld ai 290 0 0:=Fld.of 0 krStd0
instance:Fld ai 290 1 1:=Fld.of 0 krStd0
instance:TyStruct ai 290 [(0,1),(1,1)]:=⟨krStd0⟩
instance:ZeroT ai 290 [ac 0,.int .u64 0]:=⟨krStd0⟩
instance:TyOne ai 300:=⟨fun _=>krStd0,krStd0⟩
instance:TySl ai 300 303 4 40 [ac 0,.string ⟨#[]⟩,ac 0,ac 0]:=⟨krStd0,krStd0,by decide,by decide⟩
instance:ZeroT ai 300 [ae none 0 0]:=⟨krStd0⟩
instance:TyAgg ai 303 4:=⟨fun _=>krStd0,krStd0⟩
instance:Fld ai 303 0 0:=Fld.of 0 krStd0
instance:Fld ai 303 1 1:=Fld.of 0 krStd0
instance:TyStruct ai 303 [(0,1),(1,1),(2,1),(3,1)]:=⟨krStd0⟩
instance:ZeroT ai 303 [ac 0,.string ⟨#[]⟩,ac 0,ac 0]:=⟨krStd0⟩
instance:TyOne ai 352:=⟨fun _=>krStd0,krStd0⟩
instance:TySl ai 352 238 1 8 [.int .u64 0]:=⟨krStd0,krStd0,by decide,by decide⟩
instance:ZeroT ai 352 [ae none 0 0]:=⟨krStd0⟩
instance en7:En ai 7 Tryz.f7 133:=⟨fun _ _=>krStd0,Tryz.func7,rfl⟩
instance en9:En ai 9 Tryz.f9 13:=⟨fun _ _=>krStd0,Tryz.func9,rfl⟩
instance en14:En ai 14 Tryz.f14 11:=⟨fun _ _=>krStd0,Tryz.func14,rfl⟩
instance en16:En ai 16 Tryz.f16 144:=⟨fun _ _=>krStd0,Tryz.func16,rfl⟩
instance en17:En ai 17 Tryz.f17 74:=⟨fun _ _=>krStd0,Tryz.func17,rfl⟩
instance en19:En ai 19 Tryz.f19 88:=⟨fun _ _=>krStd0,Tryz.func19,rfl⟩
instance en23:En ai 23 Tryz.f23 27:=⟨fun _ _=>krStd0,Tryz.func23,rfl⟩
instance en24:En ai 24 Tryz.f24 100:=⟨fun _ _=>krStd0,Tryz.func24,rfl⟩
instance en25:En ai 25 Tryz.f25 8:=⟨fun _ _=>krStd0,Tryz.func25,rfl⟩
instance en26:En ai 26 Tryz.f26 8:=⟨fun _ _=>krStd0,Tryz.func26,rfl⟩
instance en29:En ai 29 Tryz.f29 40:=⟨fun _ _=>krStd0,Tryz.func29,rfl⟩
instance en30:En ai 30 Tryz.f30 178:=⟨fun _ _=>krStd0,Tryz.func30,rfl⟩
instance en31:En ai 31 Tryz.f31 192:=⟨fun _ _=>krStd0,Tryz.func31,rfl⟩
instance en32:En ai 32 Tryz.f32 96:=⟨fun _ _=>krStd0,Tryz.func32,rfl⟩
instance en33:En ai 33 Tryz.f33 21:=⟨fun _ _=>krStd0,Tryz.func33,rfl⟩
instance en34:En ai 34 Tryz.f34 316:=⟨fun _ _=>krStd0,Tryz.func34,rfl⟩
instance en35:En ai 35 Tryz.f35 29:=⟨fun _ _=>krStd0,Tryz.func35,rfl⟩
def en43:Enters ai 43:=fun _ _=>krStd0
def en44:Enters ai 44:=fun _ _=>krStd0
instance en45:En ai 45 Tryz.f45 13:=⟨fun _ _=>krStd0,Tryz.func45,rfl⟩
instance en46:En ai 46 Tryz.f46 118:=⟨fun _ _=>krStd0,Tryz.func46,rfl⟩
instance en47:En ai 47 Tryz.f47 32:=⟨fun _ _=>krStd0,Tryz.func47,rfl⟩
instance en48:En ai 48 Tryz.f48 80:=⟨fun _ _=>krStd0,Tryz.func48,rfl⟩
instance en50:En ai 50 Tryz.f50 102:=⟨fun _ _=>krStd0,Tryz.func50,rfl⟩
instance en51:En ai 51 Tryz.f51 7:=⟨fun _ _=>krStd0,Tryz.func51,rfl⟩
instance en52:En ai 52 Tryz.f52 34:=⟨fun _ _=>krStd0,Tryz.func52,rfl⟩
instance en53:En ai 53 Tryz.f53 16:=⟨fun _ _=>krStd0,Tryz.func53,rfl⟩
instance en55:En ai 55 Tryz.f55 30:=⟨fun _ _=>krStd0,Tryz.func55,rfl⟩
def en56:Enters ai 56:=fun _ _=>krStd0
instance en57:En ai 57 Tryz.f57 17:=⟨fun _ _=>krStd0,Tryz.func57,rfl⟩
instance en58:En ai 58 Tryz.f58 18:=⟨fun _ _=>krStd0,Tryz.func58,rfl⟩
instance en59:En ai 59 Tryz.f59 20:=⟨fun _ _=>krStd0,Tryz.func59,rfl⟩
instance en62:En ai 62 Tryz.f62 23:=⟨fun _ _=>krStd0,Tryz.func62,rfl⟩
instance en63:En ai 63 Tryz.f63 16:=⟨fun _ _=>krStd0,Tryz.func63,rfl⟩
instance en64:En ai 64 Tryz.f64 62:=⟨fun _ _=>krStd0,Tryz.func64,rfl⟩
instance en65:En ai 65 Tryz.f65 16:=⟨fun _ _=>krStd0,Tryz.func65,rfl⟩
instance en66:En ai 66 Tryz.f66 16:=⟨fun _ _=>krStd0,Tryz.func66,rfl⟩
instance en67:En ai 67 Tryz.f67 29:=⟨fun _ _=>krStd0,Tryz.func67,rfl⟩
instance en68:En ai 68 Tryz.f68 8:=⟨fun _ _=>krStd0,Tryz.func68,rfl⟩
instance en69:En ai 69 Tryz.f69 29:=⟨fun _ _=>krStd0,Tryz.func69,rfl⟩
instance en70:En ai 70 Tryz.f70 12:=⟨fun _ _=>krStd0,Tryz.func70,rfl⟩
instance en71:En ai 71 Tryz.f71 18:=⟨fun _ _=>krStd0,Tryz.func71,rfl⟩
instance en73:En ai 73 Tryz.f73 37:=⟨fun _ _=>krStd0,Tryz.func73,rfl⟩
instance en74:En ai 74 Tryz.f74 36:=⟨fun _ _=>krStd0,Tryz.func74,rfl⟩
instance en75:En ai 75 Tryz.f75 90:=⟨fun _ _=>krStd0,Tryz.func75,rfl⟩
instance en76:En ai 76 Tryz.f76 34:=⟨fun _ _=>krStd0,Tryz.func76,rfl⟩
instance en77:En ai 77 Tryz.f77 23:=⟨fun _ _=>krStd0,Tryz.func77,rfl⟩
instance en78:En ai 78 Tryz.f78 50:=⟨fun _ _=>krStd0,Tryz.func78,rfl⟩
instance en79:En ai 79 Tryz.f79 63:=⟨fun _ _=>krStd0,Tryz.func79,rfl⟩
instance en80:En ai 80 Tryz.f80 68:=⟨fun _ _=>krStd0,Tryz.func80,rfl⟩
instance en81:En ai 81 Tryz.f81 57:=⟨fun _ _=>krStd0,Tryz.func81,rfl⟩
instance en82:En ai 82 Tryz.f82 32:=⟨fun _ _=>krStd0,Tryz.func82,rfl⟩
instance en83:En ai 83 Tryz.f83 80:=⟨fun _ _=>krStd0,Tryz.func83,rfl⟩
instance en84:En ai 84 Tryz.f84 34:=⟨fun _ _=>krStd0,Tryz.func84,rfl⟩
instance en85:En ai 85 Tryz.f85 18:=⟨fun _ _=>krStd0,Tryz.func85,rfl⟩
instance en86:En ai 86 Tryz.f86 68:=⟨fun _ _=>krStd0,Tryz.func86,rfl⟩
instance en87:En ai 87 Tryz.f87 151:=⟨fun _ _=>krStd0,Tryz.func87,rfl⟩
instance en88:En ai 88 Tryz.f88 42:=⟨fun _ _=>krStd0,Tryz.func88,rfl⟩
instance en89:En ai 89 Tryz.f89 78:=⟨fun _ _=>krStd0,Tryz.func89,rfl⟩
instance en90:En ai 90 Tryz.f90 67:=⟨fun _ _=>krStd0,Tryz.func90,rfl⟩
def Iz:Enters ai 100:=fun _ _=>krStd0
instance en101:En ai 101 Tryz.f101 128:=⟨fun _ _=>krStd0,Tryz.func101,rfl⟩
instance en102:En ai 102 Tryz.f102 122:=⟨fun _ _=>krStd0,Tryz.func102,rfl⟩
instance en103:En ai 103 Tryz.f103 8:=⟨fun _ _=>krStd0,Tryz.func103,rfl⟩
instance en104:En ai 104 Tryz.f104 85:=⟨fun _ _=>krStd0,Tryz.func104,rfl⟩
instance en105:En ai 105 Tryz.f105 26:=⟨fun _ _=>krStd0,Tryz.func105,rfl⟩
instance en106:En ai 106 Tryz.f106 26:=⟨fun _ _=>krStd0,Tryz.func106,rfl⟩
instance en107:En ai 107 Tryz.f107 26:=⟨fun _ _=>krStd0,Tryz.func107,rfl⟩
instance en110:En ai 110 Tryz.f110 6:=⟨fun _ _=>krStd0,Tryz.func110,rfl⟩
instance en111:En ai 111 Tryz.f111 40:=⟨fun _ _=>krStd0,Tryz.func111,rfl⟩
instance en112:En ai 112 Tryz.f112 21:=⟨fun _ _=>krStd0,Tryz.func112,rfl⟩
instance en113:En ai 113 Tryz.f113 21:=⟨fun _ _=>krStd0,Tryz.func113,rfl⟩
instance en114:En ai 114 Tryz.f114 25:=⟨fun _ _=>krStd0,Tryz.func114,rfl⟩
instance en115:En ai 115 Tryz.f115 24:=⟨fun _ _=>krStd0,Tryz.func115,rfl⟩
instance en116:En ai 116 Tryz.f116 8:=⟨fun _ _=>krStd0,Tryz.func116,rfl⟩
instance en117:En ai 117 Tryz.f117 29:=⟨fun _ _=>krStd0,Tryz.func117,rfl⟩
instance en118:En ai 118 Tryz.f118 16:=⟨fun _ _=>krStd0,Tryz.func118,rfl⟩
instance en119:En ai 119 Tryz.f119 29:=⟨fun _ _=>krStd0,Tryz.func119,rfl⟩
instance en120:En ai 120 Tryz.f120 8:=⟨fun _ _=>krStd0,Tryz.func120,rfl⟩
instance en121:En ai 121 Tryz.f121 29:=⟨fun _ _=>krStd0,Tryz.func121,rfl⟩
instance en122:En ai 122 Tryz.f122 8:=⟨fun _ _=>krStd0,Tryz.func122,rfl⟩
instance en123:En ai 123 Tryz.f123 70:=⟨fun _ _=>krStd0,Tryz.func123,rfl⟩
instance en124:En ai 124 Tryz.f124 186:=⟨fun _ _=>krStd0,Tryz.func124,rfl⟩
instance en125:En ai 125 Tryz.f125 29:=⟨fun _ _=>krStd0,Tryz.func125,rfl⟩
instance en126:En ai 126 Tryz.f126 8:=⟨fun _ _=>krStd0,Tryz.func126,rfl⟩
instance en127:En ai 127 Tryz.f127 8:=⟨fun _ _=>krStd0,Tryz.func127,rfl⟩
instance en128:En ai 128 Tryz.f128 8:=⟨fun _ _=>krStd0,Tryz.func128,rfl⟩
instance en129:En ai 129 Tryz.f129 39:=⟨fun _ _=>krStd0,Tryz.func129,rfl⟩
instance en130:En ai 130 Tryz.f130 70:=⟨fun _ _=>krStd0,Tryz.func130,rfl⟩
instance en131:En ai 131 Tryz.f131 28:=⟨fun _ _=>krStd0,Tryz.func131,rfl⟩
instance en143:En ai 143 Tryz.f143 8:=⟨fun _ _=>krStd0,Tryz.func143,rfl⟩
instance en147:En ai 147 Tryz.f147 9:=⟨fun _ _=>krStd0,Tryz.func147,rfl⟩
instance en148:En ai 148 Tryz.f148 85:=⟨fun _ _=>krStd0,Tryz.func148,rfl⟩
instance en149:En ai 149 Tryz.f149 97:=⟨fun _ _=>krStd0,Tryz.func149,rfl⟩
instance en150:En ai 150 Tryz.f150 59:=⟨fun _ _=>krStd0,Tryz.func150,rfl⟩
instance en151:En ai 151 Tryz.f151 54:=⟨fun _ _=>krStd0,Tryz.func151,rfl⟩
instance en152:En ai 152 Tryz.f152 92:=⟨fun _ _=>krStd0,Tryz.func152,rfl⟩
instance en153:En ai 153 Tryz.f153 98:=⟨fun _ _=>krStd0,Tryz.func153,rfl⟩
instance en154:En ai 154 Tryz.f154 33:=⟨fun _ _=>krStd0,Tryz.func154,rfl⟩
instance en155:En ai 155 Tryz.f155 96:=⟨fun _ _=>krStd0,Tryz.func155,rfl⟩
instance en156:En ai 156 Tryz.f156 46:=⟨fun _ _=>krStd0,Tryz.func156,rfl⟩
instance en157:En ai 157 Tryz.f157 9:=⟨fun _ _=>krStd0,Tryz.func157,rfl⟩
instance en167:En ai 167 Tryz.f167 25:=⟨fun _ _=>krStd0,Tryz.func167,rfl⟩
instance en168:En ai 168 Tryz.f168 18:=⟨fun _ _=>krStd0,Tryz.func168,rfl⟩
instance en169:En ai 169 Tryz.f169 21:=⟨fun _ _=>krStd0,Tryz.func169,rfl⟩
instance en170:En ai 170 Tryz.f170 18:=⟨fun _ _=>krStd0,Tryz.func170,rfl⟩
instance en171:En ai 171 Tryz.f171 7:=⟨fun _ _=>krStd0,Tryz.func171,rfl⟩
instance en172:En ai 172 Tryz.f172 18:=⟨fun _ _=>krStd0,Tryz.func172,rfl⟩
instance en173:En ai 173 Tryz.f173 7:=⟨fun _ _=>krStd0,Tryz.func173,rfl⟩
instance en174:En ai 174 Tryz.f174 18:=⟨fun _ _=>krStd0,Tryz.func174,rfl⟩
instance en175:En ai 175 Tryz.f175 6:=⟨fun _ _=>krStd0,Tryz.func175,rfl⟩
instance en176:En ai 176 Tryz.f176 34:=⟨fun _ _=>krStd0,Tryz.func176,rfl⟩
instance en177:En ai 177 Tryz.f177 6:=⟨fun _ _=>krStd0,Tryz.func177,rfl⟩
instance en178:En ai 178 Tryz.f178 6:=⟨fun _ _=>krStd0,Tryz.func178,rfl⟩
instance en179:En ai 179 Tryz.f179 6:=⟨fun _ _=>krStd0,Tryz.func179,rfl⟩
instance en180:En ai 180 Tryz.f180 27:=⟨fun _ _=>krStd0,Tryz.func180,rfl⟩
instance en181:En ai 181 Tryz.f181 5:=⟨fun _ _=>krStd0,Tryz.func181,rfl⟩
instance en182:En ai 182 Tryz.f182 27:=⟨fun _ _=>krStd0,Tryz.func182,rfl⟩
instance en183:En ai 183 Tryz.f183 5:=⟨fun _ _=>krStd0,Tryz.func183,rfl⟩
instance en184:En ai 184 Tryz.f184 27:=⟨fun _ _=>krStd0,Tryz.func184,rfl⟩
instance en185:En ai 185 Tryz.f185 5:=⟨fun _ _=>krStd0,Tryz.func185,rfl⟩
instance en186:En ai 186 Tryz.f186 27:=⟨fun _ _=>krStd0,Tryz.func186,rfl⟩
instance en187:En ai 187 Tryz.f187 5:=⟨fun _ _=>krStd0,Tryz.func187,rfl⟩
instance en188:En ai 188 Tryz.f188 28:=⟨fun _ _=>krStd0,Tryz.func188,rfl⟩
instance en189:En ai 189 Tryz.f189 36:=⟨fun _ _=>krStd0,Tryz.func189,rfl⟩
instance en190:En ai 190 Tryz.f190 31:=⟨fun _ _=>krStd0,Tryz.func190,rfl⟩
instance en191:En ai 191 Tryz.f191 52:=⟨fun _ _=>krStd0,Tryz.func191,rfl⟩
instance en192:En ai 192 Tryz.f192 59:=⟨fun _ _=>krStd0,Tryz.func192,rfl⟩
instance en193:En ai 193 Tryz.f193 14:=⟨fun _ _=>krStd0,Tryz.func193,rfl⟩
instance en194:En ai 194 Tryz.f194 18:=⟨fun _ _=>krStd0,Tryz.func194,rfl⟩
instance en195:En ai 195 Tryz.f195 8:=⟨fun _ _=>krStd0,Tryz.func195,rfl⟩
instance en196:En ai 196 Tryz.f196 37:=⟨fun _ _=>krStd0,Tryz.func196,rfl⟩
instance en197:En ai 197 Tryz.f197 5:=⟨fun _ _=>krStd0,Tryz.func197,rfl⟩
instance en198:En ai 198 Tryz.f198 18:=⟨fun _ _=>krStd0,Tryz.func198,rfl⟩
instance en199:En ai 199 Tryz.f199 11:=⟨fun _ _=>krStd0,Tryz.func199,rfl⟩
instance en200:En ai 200 Tryz.f200 26:=⟨fun _ _=>krStd0,Tryz.func200,rfl⟩
instance en201:En ai 201 Tryz.f201 24:=⟨fun _ _=>krStd0,Tryz.func201,rfl⟩
instance en202:En ai 202 Tryz.f202 43:=⟨fun _ _=>krStd0,Tryz.func202,rfl⟩
instance en203:En ai 203 Tryz.f203 12:=⟨fun _ _=>krStd0,Tryz.func203,rfl⟩
instance en204:En ai 204 Tryz.f204 6:=⟨fun _ _=>krStd0,Tryz.func204,rfl⟩
instance en205:En ai 205 Tryz.f205 8:=⟨fun _ _=>krStd0,Tryz.func205,rfl⟩
instance en206:En ai 206 Tryz.f206 6:=⟨fun _ _=>krStd0,Tryz.func206,rfl⟩
instance en207:En ai 207 Tryz.f207 8:=⟨fun _ _=>krStd0,Tryz.func207,rfl⟩
instance en208:En ai 208 Tryz.f208 29:=⟨fun _ _=>krStd0,Tryz.func208,rfl⟩
instance en209:En ai 209 Tryz.f209 8:=⟨fun _ _=>krStd0,Tryz.func209,rfl⟩
instance en210:En ai 210 Tryz.f210 8:=⟨fun _ _=>krStd0,Tryz.func210,rfl⟩
instance en211:En ai 211 Tryz.f211 33:=⟨fun _ _=>krStd0,Tryz.func211,rfl⟩
instance en212:En ai 212 Tryz.f212 9:=⟨fun _ _=>krStd0,Tryz.func212,rfl⟩
instance en213:En ai 213 Tryz.f213 22:=⟨fun _ _=>krStd0,Tryz.func213,rfl⟩
instance en214:En ai 214 Tryz.f214 93:=⟨fun _ _=>krStd0,Tryz.func214,rfl⟩
instance en215:En ai 215 Tryz.f215 35:=⟨fun _ _=>krStd0,Tryz.func215,rfl⟩
instance en216:En ai 216 Tryz.f216 33:=⟨fun _ _=>krStd0,Tryz.func216,rfl⟩
instance en217:En ai 217 Tryz.f217 17:=⟨fun _ _=>krStd0,Tryz.func217,rfl⟩
instance en218:En ai 218 Tryz.f218 31:=⟨fun _ _=>krStd0,Tryz.func218,rfl⟩
instance en219:En ai 219 Tryz.f219 69:=⟨fun _ _=>krStd0,Tryz.func219,rfl⟩
instance en220:En ai 220 Tryz.f220 39:=⟨fun _ _=>krStd0,Tryz.func220,rfl⟩
instance en230:En ai 230 Tryz.f230 9:=⟨fun _ _=>krStd0,Tryz.func230,rfl⟩
instance en231:En ai 231 Tryz.f231 16:=⟨fun _ _=>krStd0,Tryz.func231,rfl⟩
instance en232:En ai 232 Tryz.f232 8:=⟨fun _ _=>krStd0,Tryz.func232,rfl⟩
instance en234:En ai 234 Tryz.f234 87:=⟨fun _ _=>krStd0,Tryz.func234,rfl⟩
instance en235:En ai 235 Tryz.f235 9:=⟨fun _ _=>krStd0,Tryz.func235,rfl⟩
instance en236:En ai 236 Tryz.f236 58:=⟨fun _ _=>krStd0,Tryz.func236,rfl⟩
instance en237:En ai 237 Tryz.f237 5:=⟨fun _ _=>krStd0,Tryz.func237,rfl⟩
instance en238:En ai 238 Tryz.f238 5:=⟨fun _ _=>krStd0,Tryz.func238,rfl⟩
instance en239:En ai 239 Tryz.f239 6:=⟨fun _ _=>krStd0,Tryz.func239,rfl⟩
instance en240:En ai 240 Tryz.f240 53:=⟨fun _ _=>krStd0,Tryz.func240,rfl⟩
instance en241:En ai 241 Tryz.f241 51:=⟨fun _ _=>krStd0,Tryz.func241,rfl⟩
instance en242:En ai 242 Tryz.f242 135:=⟨fun _ _=>krStd0,Tryz.func242,rfl⟩
instance en243:En ai 243 Tryz.f243 9:=⟨fun _ _=>krStd0,Tryz.func243,rfl⟩
instance en244:En ai 244 Tryz.f244 10:=⟨fun _ _=>krStd0,Tryz.func244,rfl⟩
instance en245:En ai 245 Tryz.f245 20:=⟨fun _ _=>krStd0,Tryz.func245,rfl⟩
instance en251:En ai 251 Tryz.f251 25:=⟨fun _ _=>krStd0,Tryz.func251,rfl⟩
instance en252:En ai 252 Tryz.f252 11:=⟨fun _ _=>krStd0,Tryz.func252,rfl⟩
instance en253:En ai 253 Tryz.f253 18:=⟨fun _ _=>krStd0,Tryz.func253,rfl⟩
instance en254:En ai 254 Tryz.f254 21:=⟨fun _ _=>krStd0,Tryz.func254,rfl⟩
instance en255:En ai 255 Tryz.f255 5:=⟨fun _ _=>krStd0,Tryz.func255,rfl⟩
instance en256:En ai 256 Tryz.f256 5:=⟨fun _ _=>krStd0,Tryz.func256,rfl⟩
instance en257:En ai 257 Tryz.f257 13:=⟨fun _ _=>krStd0,Tryz.func257,rfl⟩
instance en258:En ai 258 Tryz.f258 3:=⟨fun _ _=>krStd0,Tryz.func258,rfl⟩
instance en259:En ai 259 Tryz.f259 171:=⟨fun _ _=>krStd0,Tryz.func259,rfl⟩
instance en260:En ai 260 Tryz.f260 61:=⟨fun _ _=>krStd0,Tryz.func260,rfl⟩
instance en261:En ai 261 Tryz.f261 18:=⟨fun _ _=>krStd0,Tryz.func261,rfl⟩
instance en262:En ai 262 Tryz.f262 8:=⟨fun _ _=>krStd0,Tryz.func262,rfl⟩
instance en263:En ai 263 Tryz.f263 80:=⟨fun _ _=>krStd0,Tryz.func263,rfl⟩
instance en264:En ai 264 Tryz.f264 73:=⟨fun _ _=>krStd0,Tryz.func264,rfl⟩
instance en265:En ai 265 Tryz.f265 71:=⟨fun _ _=>krStd0,Tryz.func265,rfl⟩
instance en266:En ai 266 Tryz.f266 116:=⟨fun _ _=>krStd0,Tryz.func266,rfl⟩
instance en267:En ai 267 Tryz.f267 29:=⟨fun _ _=>krStd0,Tryz.func267,rfl⟩
instance en268:En ai 268 Tryz.f268 39:=⟨fun _ _=>krStd0,Tryz.func268,rfl⟩
instance en272:En ai 272 Tryz.f272 19:=⟨fun _ _=>krStd0,Tryz.func272,rfl⟩
instance en273:En ai 273 Tryz.f273 12:=⟨fun _ _=>krStd0,Tryz.func273,rfl⟩
instance en274:En ai 274 Tryz.f274 4:=⟨fun _ _=>krStd0,Tryz.func274,rfl⟩
instance en275:En ai 275 Tryz.f275 17:=⟨fun _ _=>krStd0,Tryz.func275,rfl⟩
instance en276:En ai 276 Tryz.f276 6:=⟨fun _ _=>krStd0,Tryz.func276,rfl⟩
instance en277:En ai 277 Tryz.f277 63:=⟨fun _ _=>krStd0,Tryz.func277,rfl⟩
instance en278:En ai 278 Tryz.f278 6:=⟨fun _ _=>krStd0,Tryz.func278,rfl⟩
instance en280:En ai 280 Tryz.f280 4:=⟨fun _ _=>krStd0,Tryz.func280,rfl⟩
instance en281:En ai 281 Tryz.f281 9:=⟨fun _ _=>krStd0,Tryz.func281,rfl⟩
def GM:Enters ai 282:=fun _ _=>krStd0
instance en283:En ai 283 Tryz.f283 17:=⟨fun _ _=>krStd0,Tryz.func283,rfl⟩
instance en284:En ai 284 Tryz.f284 74:=⟨fun _ _=>krStd0,Tryz.func284,rfl⟩
instance en285:En ai 285 Tryz.f285 17:=⟨fun _ _=>krStd0,Tryz.func285,rfl⟩
instance en286:En ai 286 Tryz.f286 23:=⟨fun _ _=>krStd0,Tryz.func286,rfl⟩
instance en287:En ai 287 Tryz.f287 20:=⟨fun _ _=>krStd0,Tryz.func287,rfl⟩
instance en288:En ai 288 Tryz.f288 22:=⟨fun _ _=>krStd0,Tryz.func288,rfl⟩
instance en289:En ai 289 Tryz.f289 19:=⟨fun _ _=>krStd0,Tryz.func289,rfl⟩
instance en291:En ai 291 Tryz.f291 5:=⟨fun _ _=>krStd0,Tryz.func291,rfl⟩
instance en292:En ai 292 Tryz.f292 16:=⟨fun _ _=>krStd0,Tryz.func292,rfl⟩
instance en293:En ai 293 Tryz.f293 53:=⟨fun _ _=>krStd0,Tryz.func293,rfl⟩
instance en295:En ai 295 Tryz.f295 34:=⟨fun _ _=>krStd0,Tryz.func295,rfl⟩
instance en296:En ai 296 Tryz.f296 32:=⟨fun _ _=>krStd0,Tryz.func296,rfl⟩
instance en297:En ai 297 Tryz.f297 99:=⟨fun _ _=>krStd0,Tryz.func297,rfl⟩
instance en299:En ai 299 Tryz.f299 6:=⟨fun _ _=>krStd0,Tryz.func299,rfl⟩
instance en300:En ai 300 Tryz.f300 100:=⟨fun _ _=>krStd0,Tryz.func300,rfl⟩
instance en301:En ai 301 Tryz.f301 8:=⟨fun _ _=>krStd0,Tryz.func301,rfl⟩
instance en302:En ai 302 Tryz.f302 22:=⟨fun _ _=>krStd0,Tryz.func302,rfl⟩
instance en303:En ai 303 Tryz.f303 14:=⟨fun _ _=>krStd0,Tryz.func303,rfl⟩
instance en304:En ai 304 Tryz.f304 6:=⟨fun _ _=>krStd0,Tryz.func304,rfl⟩
instance en305:En ai 305 Tryz.f305 59:=⟨fun _ _=>krStd0,Tryz.func305,rfl⟩
instance en308:En ai 308 Tryz.f308 13:=⟨fun _ _=>krStd0,Tryz.func308,rfl⟩
instance en310:En ai 310 Tryz.f310 20:=⟨fun _ _=>krStd0,Tryz.func310,rfl⟩
instance en320:En ai 320 Tryz.f320 17:=⟨fun _ _=>krStd0,Tryz.func320,rfl⟩
instance en321:En ai 321 Tryz.f321 9:=⟨fun _ _=>krStd0,Tryz.func321,rfl⟩
instance en322:En ai 322 Tryz.f322 52:=⟨fun _ _=>krStd0,Tryz.func322,rfl⟩
def Iy:Enters ai 323:=fun _ _=>krStd0
instance en324:En ai 324 Tryz.f324 20:=⟨fun _ _=>krStd0,Tryz.func324,rfl⟩
instance en325:En ai 325 Tryz.f325 6:=⟨fun _ _=>krStd0,Tryz.func325,rfl⟩
instance en326:En ai 326 Tryz.f326 131:=⟨fun _ _=>krStd0,Tryz.func326,rfl⟩
instance en327:En ai 327 Tryz.f327 26:=⟨fun _ _=>krStd0,Tryz.func327,rfl⟩
instance en328:En ai 328 Tryz.f328 39:=⟨fun _ _=>krStd0,Tryz.func328,rfl⟩
instance en334:En ai 334 Tryz.f334 9:=⟨fun _ _=>krStd0,Tryz.func334,rfl⟩
instance en336:En ai 336 Tryz.f336 43:=⟨fun _ _=>krStd0,Tryz.func336,rfl⟩
def mixed:Tryz.prog.follows .mixedOrders=true:=krStd0
