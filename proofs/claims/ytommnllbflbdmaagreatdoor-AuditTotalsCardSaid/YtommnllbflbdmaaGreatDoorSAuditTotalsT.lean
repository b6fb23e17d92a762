/- Facts on the tables of the types of this program, each computed by the kernel. -/
import Derived.Test.YtommnllbflbdmaaGreatDoorGAuditTotalsae
import Derived.Test.YtommnllbflbdmaaGreatDoorProg
import Derived.KernelRfl
set_option linter.all false
namespace Go.Proofs.YtommnllbflbdmaaGreatDoor
open Go.V
instance:TyOne Tryz.prog 3:=⟨fun _=>by kernel_rfl,by kernel_rfl⟩
instance:TyInt Tryz.prog 3 .i64:=⟨by kernel_rfl⟩
instance:ZeroT Tryz.prog 3 [.int .i64 0]:=⟨by kernel_rfl⟩
instance:TyOne Tryz.prog 4:=⟨fun _=>by kernel_rfl,by kernel_rfl⟩
instance:TyOne Tryz.prog 5:=⟨fun _=>by kernel_rfl,by kernel_rfl⟩
instance:TyInt Tryz.prog 5 .u8:=⟨by kernel_rfl⟩
instance:TyOne Tryz.prog 9:=⟨fun _=>by kernel_rfl,by kernel_rfl⟩
instance:TyStr Tryz.prog 9:=⟨by kernel_rfl⟩
instance:TyOne Tryz.prog 22:=⟨fun _=>by kernel_rfl,by kernel_rfl⟩
instance:TySl Tryz.prog 22 3 1 8 [.int .i64 0]:=⟨by kernel_rfl,by kernel_rfl,by decide,by decide⟩
instance:ZeroT Tryz.prog 22 [.slice none 0 0]:=⟨by kernel_rfl⟩
instance:TyOne Tryz.prog 26:=⟨fun _=>by kernel_rfl,by kernel_rfl⟩
instance:TySl Tryz.prog 26 65 7 72 [.int .i64 0,.int .i64 0,.int .i64 0,.int .i64 0,.int .i64 0,.int .i64 0,.slice none 0 0]:=⟨by kernel_rfl,by kernel_rfl,by decide,by decide⟩
instance:TyOne Tryz.prog 28:=⟨fun _=>by kernel_rfl,by kernel_rfl⟩
instance:TySl Tryz.prog 28 147 7 48 [.string ⟨#[]⟩,.bool false,.bool false,.bool false,.int .i64 0,.int .i64 0,.int .i64 0]:=⟨by kernel_rfl,by kernel_rfl,by decide,by decide⟩
instance:TyOne Tryz.prog 29:=⟨fun _=>by kernel_rfl,by kernel_rfl⟩
instance:TySl Tryz.prog 29 79 9 128 [.string ⟨#[]⟩,.bool false,.int .i64 0,.int .i64 0,.int .i64 0,.int .i64 0,.slice none 0 0,.slice none 0 0,.slice none 0 0]:=⟨by kernel_rfl,by kernel_rfl,by decide,by decide⟩
instance:TyOne Tryz.prog 30:=⟨fun _=>by kernel_rfl,by kernel_rfl⟩
instance:TySl Tryz.prog 30 153 2 40 [.string ⟨#[]⟩,.slice none 0 0]:=⟨by kernel_rfl,by kernel_rfl,by decide,by decide⟩
instance:TyOne Tryz.prog 31:=⟨fun _=>by kernel_rfl,by kernel_rfl⟩
instance:TySl Tryz.prog 31 160 2 40 [.string ⟨#[]⟩,.slice none 0 0]:=⟨by kernel_rfl,by kernel_rfl,by decide,by decide⟩
instance:TyAgg Tryz.prog 33 4:=⟨fun _=>by kernel_rfl,by kernel_rfl⟩
instance:Fld Tryz.prog 33 0 0:=Fld.of 0 an
instance:Fld Tryz.prog 33 1 1:=Fld.of 0 an
instance:Fld Tryz.prog 33 2 2:=Fld.of 0 an
instance:Fld Tryz.prog 33 3 3:=Fld.of 0 an
instance:TyStruct Tryz.prog 33 [(0,1),(1,1),(2,1),(3,1)]:=⟨by kernel_rfl⟩
instance:ZeroT Tryz.prog 33 [.slice none 0 0,.slice none 0 0,.slice none 0 0,.slice none 0 0]:=⟨by kernel_rfl⟩
instance:TyOne Tryz.prog 34:=⟨fun _=>by kernel_rfl,by kernel_rfl⟩
instance:TySl Tryz.prog 34 186 3 40 [.int .i64 0,.int .i64 0,.slice none 0 0]:=⟨by kernel_rfl,by kernel_rfl,by decide,by decide⟩
instance:TyOne Tryz.prog 35:=⟨fun _=>by kernel_rfl,by kernel_rfl⟩
instance:TySl Tryz.prog 35 89 11 120 [.int .i64 0,.int .i64 0,.int .i64 0,.int .i64 0,.int .i64 0,.int .i64 0,.int .i64 0,.int .i64 0,.int .i64 0,.slice none 0 0,.slice none 0 0]:=⟨by kernel_rfl,by kernel_rfl,by decide,by decide⟩
instance:Fld Tryz.prog 37 0 0:=Fld.of 0 an
instance:Fld Tryz.prog 37 1 1:=Fld.of 3 an
instance:Fld Tryz.prog 37 2 5:=Fld.of 0 an
instance:Fld Tryz.prog 37 3 6:=Fld.of 0 an
instance:Fld Tryz.prog 37 4 7:=Fld.of 0 an
instance:TyStruct Tryz.prog 37 [(0,1),(1,4),(5,1),(6,1),(7,1)]:=⟨by kernel_rfl⟩
instance:ZeroT Tryz.prog 37 [.int .i64 0,.slice none 0 0,.slice none 0 0,.slice none 0 0,.slice none 0 0,.slice none 0 0,.slice none 0 0,.slice none 0 0]:=⟨by kernel_rfl⟩
instance:TySl Tryz.prog 40 26 1 24 [.slice none 0 0]:=⟨by kernel_rfl,by kernel_rfl,by decide,by decide⟩
instance:TyOne Tryz.prog 42:=⟨fun _=>by kernel_rfl,by kernel_rfl⟩
instance:ZeroT Tryz.prog 42 [.int .i64 0]:=⟨by kernel_rfl⟩
instance:TyAgg Tryz.prog 46 3:=⟨fun _=>by kernel_rfl,by kernel_rfl⟩
instance:TyStruct Tryz.prog 46 [(0,1),(1,1),(2,1)]:=⟨by kernel_rfl⟩
instance:ZeroT Tryz.prog 46 [.int .i64 0,.int .i64 0,.int .i64 0]:=⟨by kernel_rfl⟩
instance:TySl Tryz.prog 53 112 3 24 [.int .i64 0,.int .i64 0,.int .i64 0]:=⟨by kernel_rfl,by kernel_rfl,by decide,by decide⟩
instance:TyOne Tryz.prog 58:=⟨fun _=>by kernel_rfl,by kernel_rfl⟩
instance:TyPtr Tryz.prog 58:=⟨⟨126,by kernel_rfl⟩⟩
instance:TyOne Tryz.prog 63:=⟨fun _=>by kernel_rfl,by kernel_rfl⟩
instance:TySl Tryz.prog 63 74 5 56 [.int .i64 0,.int .i64 0,.int .i64 0,.int .i64 0,.slice none 0 0]:=⟨by kernel_rfl,by kernel_rfl,by decide,by decide⟩
instance:TyAgg Tryz.prog 65 7:=⟨fun _=>by kernel_rfl,by kernel_rfl⟩
instance:Fld Tryz.prog 65 0 0:=Fld.of 0 an
instance:Fld Tryz.prog 65 1 1:=Fld.of 0 an
instance:Fld Tryz.prog 65 2 2:=Fld.of 0 an
instance:Fld Tryz.prog 65 3 3:=Fld.of 0 an
instance:Fld Tryz.prog 65 4 4:=Fld.of 0 an
instance:Fld Tryz.prog 65 5 5:=Fld.of 0 an
instance:Fld Tryz.prog 65 6 6:=Fld.of 0 an
instance:TyStruct Tryz.prog 65 [(0,1),(1,1),(2,1),(3,1),(4,1),(5,1),(6,1)]:=⟨by kernel_rfl⟩
instance:ZeroT Tryz.prog 65 [.int .i64 0,.int .i64 0,.int .i64 0,.int .i64 0,.int .i64 0,.int .i64 0,.slice none 0 0]:=⟨by kernel_rfl⟩
instance:TyOne Tryz.prog 68:=⟨fun _=>by kernel_rfl,by kernel_rfl⟩
instance:TyOne Tryz.prog 72:=⟨fun _=>by kernel_rfl,by kernel_rfl⟩
instance:TySl Tryz.prog 72 91 3 24 [.int .i64 0,.int .i64 0,.int .i64 0]:=⟨by kernel_rfl,by kernel_rfl,by decide,by decide⟩
instance:ZeroT Tryz.prog 72 [.slice none 0 0]:=⟨by kernel_rfl⟩
instance:TyAgg Tryz.prog 74 5:=⟨fun _=>by kernel_rfl,by kernel_rfl⟩
instance:Fld Tryz.prog 74 0 0:=Fld.of 0 an
instance:Fld Tryz.prog 74 1 1:=Fld.of 0 an
instance:Fld Tryz.prog 74 2 2:=Fld.of 0 an
instance:Fld Tryz.prog 74 3 3:=Fld.of 0 an
instance:Fld Tryz.prog 74 4 4:=Fld.of 0 an
instance:TyStruct Tryz.prog 74 [(0,1),(1,1),(2,1),(3,1),(4,1)]:=⟨by kernel_rfl⟩
instance:ZeroT Tryz.prog 74 [.int .i64 0,.int .i64 0,.int .i64 0,.int .i64 0,.slice none 0 0]:=⟨by kernel_rfl⟩
instance:TyOne Tryz.prog 77:=⟨fun _=>by kernel_rfl,by kernel_rfl⟩
instance:TySl Tryz.prog 77 81 2 16 [.int .i64 0,.int .i64 0]:=⟨by kernel_rfl,by kernel_rfl,by decide,by decide⟩
instance:TyAgg Tryz.prog 79 9:=⟨fun _=>by kernel_rfl,by kernel_rfl⟩
instance:Fld Tryz.prog 79 0 0:=Fld.of 0 an
instance:Fld Tryz.prog 79 1 1:=Fld.of 0 an
instance:Fld Tryz.prog 79 2 2:=Fld.of 0 an
instance:Fld Tryz.prog 79 3 3:=Fld.of 0 an
instance:Fld Tryz.prog 79 4 4:=Fld.of 0 an
instance:Fld Tryz.prog 79 5 5:=Fld.of 0 an
instance:Fld Tryz.prog 79 6 6:=Fld.of 0 an
instance:Fld Tryz.prog 79 7 7:=Fld.of 0 an
instance:Fld Tryz.prog 79 8 8:=Fld.of 0 an
instance:TyStruct Tryz.prog 79 [(0,1),(1,1),(2,1),(3,1),(4,1),(5,1),(6,1),(7,1),(8,1)]:=⟨by kernel_rfl⟩
instance:ZeroT Tryz.prog 79 [.string ⟨#[]⟩,.bool false,.int .i64 0,.int .i64 0,.int .i64 0,.int .i64 0,.slice none 0 0,.slice none 0 0,.slice none 0 0]:=⟨by kernel_rfl⟩
instance:TyAgg Tryz.prog 81 2:=⟨fun _=>by kernel_rfl,by kernel_rfl⟩
instance:Fld Tryz.prog 81 0 0:=Fld.of 0 an
instance:Fld Tryz.prog 81 1 1:=Fld.of 0 an
instance:TyStruct Tryz.prog 81 [(0,1),(1,1)]:=⟨by kernel_rfl⟩
instance:ZeroT Tryz.prog 81 [.int .i64 0,.int .i64 0]:=⟨by kernel_rfl⟩
instance:TyAgg Tryz.prog 89 11:=⟨fun _=>by kernel_rfl,by kernel_rfl⟩
instance:Fld Tryz.prog 89 0 0:=Fld.of 0 an
instance:Fld Tryz.prog 89 1 1:=Fld.of 0 an
instance:Fld Tryz.prog 89 2 2:=Fld.of 0 an
instance:Fld Tryz.prog 89 3 3:=Fld.of 0 an
instance:Fld Tryz.prog 89 4 4:=Fld.of 0 an
instance:Fld Tryz.prog 89 5 5:=Fld.of 0 an
instance:Fld Tryz.prog 89 6 6:=Fld.of 0 an
instance:Fld Tryz.prog 89 7 7:=Fld.of 0 an
instance:Fld Tryz.prog 89 8 8:=Fld.of 0 an
instance:Fld Tryz.prog 89 9 9:=Fld.of 0 an
instance:Fld Tryz.prog 89 10 10:=Fld.of 0 an
instance:TyStruct Tryz.prog 89 [(0,1),(1,1),(2,1),(3,1),(4,1),(5,1),(6,1),(7,1),(8,1),(9,1),(10,1)]:=⟨by kernel_rfl⟩
instance:ZeroT Tryz.prog 89 [.int .i64 0,.int .i64 0,.int .i64 0,.int .i64 0,.int .i64 0,.int .i64 0,.int .i64 0,.int .i64 0,.int .i64 0,.slice none 0 0,.slice none 0 0]:=⟨by kernel_rfl⟩
instance:TyAgg Tryz.prog 91 3:=⟨fun _=>by kernel_rfl,by kernel_rfl⟩
instance:Fld Tryz.prog 91 0 0:=Fld.of 0 an
instance:Fld Tryz.prog 91 1 1:=Fld.of 0 an
instance:Fld Tryz.prog 91 2 2:=Fld.of 0 an
instance:TyStruct Tryz.prog 91 [(0,1),(1,1),(2,1)]:=⟨by kernel_rfl⟩
instance:ZeroT Tryz.prog 91 [.int .i64 0,.int .i64 0,.int .i64 0]:=⟨by kernel_rfl⟩
instance:TyInt Tryz.prog 100 .u64:=⟨by kernel_rfl⟩
instance:TyOne Tryz.prog 101:=⟨fun _=>by kernel_rfl,by kernel_rfl⟩
instance:TyOne Tryz.prog 102:=⟨fun _=>by kernel_rfl,by kernel_rfl⟩
instance:TyOne Tryz.prog 103:=⟨fun _=>by kernel_rfl,by kernel_rfl⟩
instance:Fld Tryz.prog 105 0 0:=Fld.of 0 an
instance:Fld Tryz.prog 105 1 1:=Fld.of 3 an
instance:Fld Tryz.prog 105 2 5:=Fld.of 0 an
instance:Fld Tryz.prog 105 3 6:=Fld.of 0 an
instance:Fld Tryz.prog 105 4 7:=Fld.of 0 an
instance:Fld Tryz.prog 105 5 8:=Fld.of 0 an
instance:Fld Tryz.prog 105 6 9:=Fld.of 0 an
instance:Fld Tryz.prog 105 7 10:=Fld.of 0 an
instance:Fld Tryz.prog 105 8 11:=Fld.of 0 an
instance:TyStruct Tryz.prog 105 [(0,1),(1,4),(5,1),(6,1),(7,1),(8,1),(9,1),(10,1),(11,1)]:=⟨by kernel_rfl⟩
instance:ZeroT Tryz.prog 105 [.int .i64 0,.slice none 0 0,.slice none 0 0,.slice none 0 0,.slice none 0 0,.int .i64 0,.int .i64 0,.map none,.map none,.slice none 0 0,.map none,.map none]:=⟨by kernel_rfl⟩
instance:TyAgg Tryz.prog 112 3:=⟨fun _=>by kernel_rfl,by kernel_rfl⟩
instance:Fld Tryz.prog 112 0 0:=Fld.of 0 an
instance:Fld Tryz.prog 112 1 1:=Fld.of 0 an
instance:Fld Tryz.prog 112 2 2:=Fld.of 0 an
instance:TyStruct Tryz.prog 112 [(0,1),(1,1),(2,1)]:=⟨by kernel_rfl⟩
instance:ZeroT Tryz.prog 112 [.int .i64 0,.int .i64 0,.int .i64 0]:=⟨by kernel_rfl⟩
instance:TyOne Tryz.prog 115:=⟨fun _=>by kernel_rfl,by kernel_rfl⟩
instance:ZeroT Tryz.prog 115 [.map none]:=⟨by kernel_rfl⟩
instance:TyAgg Tryz.prog 116 2:=⟨fun _=>by kernel_rfl,by kernel_rfl⟩
instance:ZeroT Tryz.prog 116 [.int .i64 0,.int .i64 0]:=⟨by kernel_rfl⟩
instance:TyOne Tryz.prog 124:=⟨fun _=>by kernel_rfl,by kernel_rfl⟩
instance:Fld Tryz.prog 126 0 0:=Fld.of 0 an
instance:Fld Tryz.prog 126 1 1:=Fld.of 3 an
instance:Fld Tryz.prog 126 2 5:=Fld.of 0 an
instance:Fld Tryz.prog 126 3 6:=Fld.of 0 an
instance:Fld Tryz.prog 126 4 7:=Fld.of 0 an
instance:Fld Tryz.prog 126 5 8:=Fld.of 0 an
instance:Fld Tryz.prog 126 6 9:=Fld.of 0 an
instance:Fld Tryz.prog 126 7 10:=Fld.of 0 an
instance:TyStruct Tryz.prog 126 [(0,1),(1,4),(5,1),(6,1),(7,1),(8,1),(9,1),(10,1)]:=⟨by kernel_rfl⟩
instance:ZeroT Tryz.prog 126 [.int .i64 0,.slice none 0 0,.slice none 0 0,.slice none 0 0,.slice none 0 0,.map none,.map none,.slice none 0 0,.slice none 0 0,.map none,.map none]:=⟨by kernel_rfl⟩
instance:Fld Tryz.prog 131 0 0:=Fld.of 0 an
instance:Fld Tryz.prog 131 1 1:=Fld.of 6 an
instance:Fld Tryz.prog 131 2 8:=Fld.of 0 an
instance:Fld Tryz.prog 131 3 9:=Fld.of 0 an
instance:Fld Tryz.prog 131 4 10:=Fld.of 0 an
instance:Fld Tryz.prog 131 5 11:=Fld.of 0 an
instance:Fld Tryz.prog 131 6 12:=Fld.of 0 an
instance:Fld Tryz.prog 131 7 13:=Fld.of 0 an
instance:TyStruct Tryz.prog 131 [(0,1),(1,7),(8,1),(9,1),(10,1),(11,1),(12,1),(13,1)]:=⟨by kernel_rfl⟩
instance:ZeroT Tryz.prog 131 [.pointer none,.int .i64 0,.int .i64 0,.int .i64 0,.int .i64 0,.int .i64 0,.int .i64 0,.slice none 0 0,.map none,.map none,.map none,.map none,.slice none 0 0,.slice none 0 0]:=⟨by kernel_rfl⟩
instance:TyAgg Tryz.prog 133 2:=⟨fun _=>by kernel_rfl,by kernel_rfl⟩
instance:TyStruct Tryz.prog 133 [(0,1),(1,1)]:=⟨by kernel_rfl⟩
instance:ZeroT Tryz.prog 133 [.int .i64 0,.int .i64 0]:=⟨by kernel_rfl⟩
instance:TyAgg Tryz.prog 147 7:=⟨fun _=>by kernel_rfl,by kernel_rfl⟩
instance:Fld Tryz.prog 147 0 0:=Fld.of 0 an
instance:Fld Tryz.prog 147 1 1:=Fld.of 0 an
instance:Fld Tryz.prog 147 2 2:=Fld.of 0 an
instance:Fld Tryz.prog 147 3 3:=Fld.of 0 an
instance:Fld Tryz.prog 147 4 4:=Fld.of 0 an
instance:Fld Tryz.prog 147 5 5:=Fld.of 0 an
instance:Fld Tryz.prog 147 6 6:=Fld.of 0 an
instance:TyStruct Tryz.prog 147 [(0,1),(1,1),(2,1),(3,1),(4,1),(5,1),(6,1)]:=⟨by kernel_rfl⟩
instance:ZeroT Tryz.prog 147 [.string ⟨#[]⟩,.bool false,.bool false,.bool false,.int .i64 0,.int .i64 0,.int .i64 0]:=⟨by kernel_rfl⟩
instance:TyOne Tryz.prog 151:=⟨fun _=>by kernel_rfl,by kernel_rfl⟩
instance:TySl Tryz.prog 151 155 2 32 [.int .i64 0,.slice none 0 0]:=⟨by kernel_rfl,by kernel_rfl,by decide,by decide⟩
instance:TyAgg Tryz.prog 153 2:=⟨fun _=>by kernel_rfl,by kernel_rfl⟩
instance:Fld Tryz.prog 153 0 0:=Fld.of 0 an
instance:Fld Tryz.prog 153 1 1:=Fld.of 0 an
instance:TyStruct Tryz.prog 153 [(0,1),(1,1)]:=⟨by kernel_rfl⟩
instance:ZeroT Tryz.prog 153 [.string ⟨#[]⟩,.slice none 0 0]:=⟨by kernel_rfl⟩
instance:TyAgg Tryz.prog 155 2:=⟨fun _=>by kernel_rfl,by kernel_rfl⟩
instance:Fld Tryz.prog 155 0 0:=Fld.of 0 an
instance:Fld Tryz.prog 155 1 1:=Fld.of 0 an
instance:TyStruct Tryz.prog 155 [(0,1),(1,1)]:=⟨by kernel_rfl⟩
instance:ZeroT Tryz.prog 155 [.int .i64 0,.slice none 0 0]:=⟨by kernel_rfl⟩
instance:TyAgg Tryz.prog 157 2:=⟨fun _=>by kernel_rfl,by kernel_rfl⟩
instance:Fld Tryz.prog 157 0 0:=Fld.of 0 an
instance:Fld Tryz.prog 157 1 1:=Fld.of 0 an
instance:TyStruct Tryz.prog 157 [(0,1),(1,1)]:=⟨by kernel_rfl⟩
instance:ZeroT Tryz.prog 157 [.int .i64 0,.int .i64 0]:=⟨by kernel_rfl⟩
instance:TyOne Tryz.prog 158:=⟨fun _=>by kernel_rfl,by kernel_rfl⟩
instance:TySl Tryz.prog 158 157 2 16 [.int .i64 0,.int .i64 0]:=⟨by kernel_rfl,by kernel_rfl,by decide,by decide⟩
instance:TyAgg Tryz.prog 160 2:=⟨fun _=>by kernel_rfl,by kernel_rfl⟩
instance:Fld Tryz.prog 160 0 0:=Fld.of 0 an
instance:Fld Tryz.prog 160 1 1:=Fld.of 0 an
instance:TyStruct Tryz.prog 160 [(0,1),(1,1)]:=⟨by kernel_rfl⟩
instance:ZeroT Tryz.prog 160 [.string ⟨#[]⟩,.slice none 0 0]:=⟨by kernel_rfl⟩
instance:TyAgg Tryz.prog 186 3:=⟨fun _=>by kernel_rfl,by kernel_rfl⟩
instance:Fld Tryz.prog 186 0 0:=Fld.of 0 an
instance:Fld Tryz.prog 186 1 1:=Fld.of 0 an
instance:Fld Tryz.prog 186 2 2:=Fld.of 0 an
instance:TyStruct Tryz.prog 186 [(0,1),(1,1),(2,1)]:=⟨by kernel_rfl⟩
instance:ZeroT Tryz.prog 186 [.int .i64 0,.int .i64 0,.slice none 0 0]:=⟨by kernel_rfl⟩
instance:TyOne Tryz.prog 195:=⟨fun _=>by kernel_rfl,by kernel_rfl⟩
instance:TyOne Tryz.prog 238:=⟨fun _=>by kernel_rfl,by kernel_rfl⟩
instance:TyInt Tryz.prog 238 .u64:=⟨by kernel_rfl⟩
instance:TyOne Tryz.prog 255:=⟨fun _=>by kernel_rfl,by kernel_rfl⟩
instance:ZeroT Tryz.prog 255 [.nilFunc]:=⟨by kernel_rfl⟩
instance:TyOne Tryz.prog 265:=⟨fun _=>by kernel_rfl,by kernel_rfl⟩
instance:TyAgg Tryz.prog 267 4:=⟨fun _=>by kernel_rfl,by kernel_rfl⟩
instance:Fld Tryz.prog 267 0 0:=Fld.of 0 an
instance:Fld Tryz.prog 267 1 1:=Fld.of 0 an
instance:Fld Tryz.prog 267 2 2:=Fld.of 0 an
instance:Fld Tryz.prog 267 3 3:=Fld.of 0 an
instance:TyStruct Tryz.prog 267 [(0,1),(1,1),(2,1),(3,1)]:=⟨by kernel_rfl⟩
instance:ZeroT Tryz.prog 267 [.nilFunc,.nilFunc,.bool false,.nilFunc]:=⟨by kernel_rfl⟩
instance:TySl Tryz.prog 285 290 2 16 [.int .i64 0,.int .u64 0]:=⟨by kernel_rfl,by kernel_rfl,by decide,by decide⟩
instance:TyAgg Tryz.prog 290 2:=⟨fun _=>by kernel_rfl,by kernel_rfl⟩
instance:Fld Tryz.prog 290 0 0:=Fld.of 0 an
instance:Fld Tryz.prog 290 1 1:=Fld.of 0 an
instance:TyStruct Tryz.prog 290 [(0,1),(1,1)]:=⟨by kernel_rfl⟩
instance:ZeroT Tryz.prog 290 [.int .i64 0,.int .u64 0]:=⟨by kernel_rfl⟩
instance:TyOne Tryz.prog 300:=⟨fun _=>by kernel_rfl,by kernel_rfl⟩
instance:TySl Tryz.prog 300 303 4 40 [.int .i64 0,.string ⟨#[]⟩,.int .i64 0,.int .i64 0]:=⟨by kernel_rfl,by kernel_rfl,by decide,by decide⟩
instance:ZeroT Tryz.prog 300 [.slice none 0 0]:=⟨by kernel_rfl⟩
instance:TyAgg Tryz.prog 303 4:=⟨fun _=>by kernel_rfl,by kernel_rfl⟩
instance:Fld Tryz.prog 303 0 0:=Fld.of 0 an
instance:Fld Tryz.prog 303 1 1:=Fld.of 0 an
instance:TyStruct Tryz.prog 303 [(0,1),(1,1),(2,1),(3,1)]:=⟨by kernel_rfl⟩
instance:ZeroT Tryz.prog 303 [.int .i64 0,.string ⟨#[]⟩,.int .i64 0,.int .i64 0]:=⟨by kernel_rfl⟩
instance:TyOne Tryz.prog 352:=⟨fun _=>by kernel_rfl,by kernel_rfl⟩
instance:TySl Tryz.prog 352 238 1 8 [.int .u64 0]:=⟨by kernel_rfl,by kernel_rfl,by decide,by decide⟩
instance:ZeroT Tryz.prog 352 [.slice none 0 0]:=⟨by kernel_rfl⟩
theorem en4:Enters Tryz.prog 4:=fun _ _=>by kernel_rfl
theorem en9:Enters Tryz.prog 9:=fun _ _=>by kernel_rfl
theorem en10:Enters Tryz.prog 10:=fun _ _=>by kernel_rfl
theorem en11:Enters Tryz.prog 11:=fun _ _=>by kernel_rfl
theorem en14:Enters Tryz.prog 14:=fun _ _=>by kernel_rfl
theorem en16:Enters Tryz.prog 16:=fun _ _=>by kernel_rfl
theorem en17:Enters Tryz.prog 17:=fun _ _=>by kernel_rfl
theorem en18:Enters Tryz.prog 18:=fun _ _=>by kernel_rfl
theorem en19:Enters Tryz.prog 19:=fun _ _=>by kernel_rfl
theorem en20:Enters Tryz.prog 20:=fun _ _=>by kernel_rfl
theorem en21:Enters Tryz.prog 21:=fun _ _=>by kernel_rfl
theorem en22:Enters Tryz.prog 22:=fun _ _=>by kernel_rfl
theorem en23:Enters Tryz.prog 23:=fun _ _=>by kernel_rfl
theorem en24:Enters Tryz.prog 24:=fun _ _=>by kernel_rfl
theorem en25:Enters Tryz.prog 25:=fun _ _=>by kernel_rfl
theorem en26:Enters Tryz.prog 26:=fun _ _=>by kernel_rfl
theorem en32:Enters Tryz.prog 32:=fun _ _=>by kernel_rfl
theorem en36:Enters Tryz.prog 36:=fun _ _=>by kernel_rfl
theorem en37:Enters Tryz.prog 37:=fun _ _=>by kernel_rfl
theorem en38:Enters Tryz.prog 38:=fun _ _=>by kernel_rfl
theorem en41:Enters Tryz.prog 41:=fun _ _=>by kernel_rfl
theorem en42:Enters Tryz.prog 42:=fun _ _=>by kernel_rfl
theorem en43:Enters Tryz.prog 43:=fun _ _=>by kernel_rfl
theorem en44:Enters Tryz.prog 44:=fun _ _=>by kernel_rfl
theorem en45:Enters Tryz.prog 45:=fun _ _=>by kernel_rfl
theorem en46:Enters Tryz.prog 46:=fun _ _=>by kernel_rfl
theorem en47:Enters Tryz.prog 47:=fun _ _=>by kernel_rfl
theorem en48:Enters Tryz.prog 48:=fun _ _=>by kernel_rfl
theorem en51:Enters Tryz.prog 51:=fun _ _=>by kernel_rfl
theorem en52:Enters Tryz.prog 52:=fun _ _=>by kernel_rfl
theorem en53:Enters Tryz.prog 53:=fun _ _=>by kernel_rfl
theorem en54:Enters Tryz.prog 54:=fun _ _=>by kernel_rfl
theorem en55:Enters Tryz.prog 55:=fun _ _=>by kernel_rfl
theorem en56:Enters Tryz.prog 56:=fun _ _=>by kernel_rfl
theorem en57:Enters Tryz.prog 57:=fun _ _=>by kernel_rfl
theorem en58:Enters Tryz.prog 58:=fun _ _=>by kernel_rfl
theorem en59:Enters Tryz.prog 59:=fun _ _=>by kernel_rfl
theorem en60:Enters Tryz.prog 60:=fun _ _=>by kernel_rfl
theorem en61:Enters Tryz.prog 61:=fun _ _=>by kernel_rfl
theorem en62:Enters Tryz.prog 62:=fun _ _=>by kernel_rfl
theorem en63:Enters Tryz.prog 63:=fun _ _=>by kernel_rfl
theorem en64:Enters Tryz.prog 64:=fun _ _=>by kernel_rfl
theorem en65:Enters Tryz.prog 65:=fun _ _=>by kernel_rfl
theorem en66:Enters Tryz.prog 66:=fun _ _=>by kernel_rfl
theorem en67:Enters Tryz.prog 67:=fun _ _=>by kernel_rfl
theorem en68:Enters Tryz.prog 68:=fun _ _=>by kernel_rfl
theorem en69:Enters Tryz.prog 69:=fun _ _=>by kernel_rfl
theorem en70:Enters Tryz.prog 70:=fun _ _=>by kernel_rfl
theorem en71:Enters Tryz.prog 71:=fun _ _=>by kernel_rfl
theorem en91:Enters Tryz.prog 91:=fun _ _=>by kernel_rfl
theorem en92:Enters Tryz.prog 92:=fun _ _=>by kernel_rfl
theorem en93:Enters Tryz.prog 93:=fun _ _=>by kernel_rfl
theorem en94:Enters Tryz.prog 94:=fun _ _=>by kernel_rfl
theorem en98:Enters Tryz.prog 98:=fun _ _=>by kernel_rfl
theorem en99:Enters Tryz.prog 99:=fun _ _=>by kernel_rfl
theorem IP:Enters Tryz.prog 100:=fun _ _=>by kernel_rfl
theorem IO:Enters Tryz.prog 101:=fun _ _=>by kernel_rfl
theorem IN:Enters Tryz.prog 102:=fun _ _=>by kernel_rfl
theorem IM:Enters Tryz.prog 103:=fun _ _=>by kernel_rfl
theorem IL:Enters Tryz.prog 104:=fun _ _=>by kernel_rfl
theorem IK:Enters Tryz.prog 105:=fun _ _=>by kernel_rfl
theorem IJ:Enters Tryz.prog 106:=fun _ _=>by kernel_rfl
theorem ue:Enters Tryz.prog 110:=fun _ _=>by kernel_rfl
theorem II:Enters Tryz.prog 111:=fun _ _=>by kernel_rfl
theorem IH:Enters Tryz.prog 112:=fun _ _=>by kernel_rfl
theorem IG:Enters Tryz.prog 113:=fun _ _=>by kernel_rfl
theorem IF:Enters Tryz.prog 114:=fun _ _=>by kernel_rfl
theorem IE:Enters Tryz.prog 115:=fun _ _=>by kernel_rfl
theorem ID:Enters Tryz.prog 116:=fun _ _=>by kernel_rfl
theorem IC:Enters Tryz.prog 117:=fun _ _=>by kernel_rfl
theorem IB:Enters Tryz.prog 118:=fun _ _=>by kernel_rfl
theorem IA:Enters Tryz.prog 119:=fun _ _=>by kernel_rfl
theorem Iz:Enters Tryz.prog 120:=fun _ _=>by kernel_rfl
theorem Iy:Enters Tryz.prog 121:=fun _ _=>by kernel_rfl
theorem Ix:Enters Tryz.prog 122:=fun _ _=>by kernel_rfl
theorem Iw:Enters Tryz.prog 123:=fun _ _=>by kernel_rfl
theorem Iv:Enters Tryz.prog 124:=fun _ _=>by kernel_rfl
theorem DU:Enters Tryz.prog 125:=fun _ _=>by kernel_rfl
theorem Iu:Enters Tryz.prog 126:=fun _ _=>by kernel_rfl
theorem It:Enters Tryz.prog 127:=fun _ _=>by kernel_rfl
theorem Is:Enters Tryz.prog 132:=fun _ _=>by kernel_rfl
theorem Ir:Enters Tryz.prog 133:=fun _ _=>by kernel_rfl
theorem Iq:Enters Tryz.prog 134:=fun _ _=>by kernel_rfl
theorem DT:Enters Tryz.prog 135:=fun _ _=>by kernel_rfl
theorem Ip:Enters Tryz.prog 136:=fun _ _=>by kernel_rfl
theorem Io:Enters Tryz.prog 137:=fun _ _=>by kernel_rfl
theorem In:Enters Tryz.prog 138:=fun _ _=>by kernel_rfl
theorem Im:Enters Tryz.prog 139:=fun _ _=>by kernel_rfl
theorem Il:Enters Tryz.prog 140:=fun _ _=>by kernel_rfl
theorem Ik:Enters Tryz.prog 141:=fun _ _=>by kernel_rfl
theorem Ij:Enters Tryz.prog 142:=fun _ _=>by kernel_rfl
theorem Ii:Enters Tryz.prog 143:=fun _ _=>by kernel_rfl
theorem DS:Enters Tryz.prog 144:=fun _ _=>by kernel_rfl
theorem Ih:Enters Tryz.prog 145:=fun _ _=>by kernel_rfl
theorem Ig:Enters Tryz.prog 146:=fun _ _=>by kernel_rfl
theorem If:Enters Tryz.prog 147:=fun _ _=>by kernel_rfl
theorem Ie:Enters Tryz.prog 148:=fun _ _=>by kernel_rfl
theorem Id:Enters Tryz.prog 149:=fun _ _=>by kernel_rfl
theorem Ic:Enters Tryz.prog 150:=fun _ _=>by kernel_rfl
theorem Ib:Enters Tryz.prog 151:=fun _ _=>by kernel_rfl
theorem Ia:Enters Tryz.prog 152:=fun _ _=>by kernel_rfl
theorem HZ:Enters Tryz.prog 153:=fun _ _=>by kernel_rfl
theorem HY:Enters Tryz.prog 154:=fun _ _=>by kernel_rfl
theorem HX:Enters Tryz.prog 155:=fun _ _=>by kernel_rfl
theorem HW:Enters Tryz.prog 156:=fun _ _=>by kernel_rfl
theorem HV:Enters Tryz.prog 157:=fun _ _=>by kernel_rfl
theorem HU:Enters Tryz.prog 167:=fun _ _=>by kernel_rfl
theorem HT:Enters Tryz.prog 168:=fun _ _=>by kernel_rfl
theorem HS:Enters Tryz.prog 169:=fun _ _=>by kernel_rfl
theorem HR:Enters Tryz.prog 170:=fun _ _=>by kernel_rfl
theorem HQ:Enters Tryz.prog 171:=fun _ _=>by kernel_rfl
theorem HO:Enters Tryz.prog 172:=fun _ _=>by kernel_rfl
theorem HN:Enters Tryz.prog 173:=fun _ _=>by kernel_rfl
theorem HM:Enters Tryz.prog 174:=fun _ _=>by kernel_rfl
theorem HL:Enters Tryz.prog 175:=fun _ _=>by kernel_rfl
theorem HK:Enters Tryz.prog 176:=fun _ _=>by kernel_rfl
theorem HJ:Enters Tryz.prog 177:=fun _ _=>by kernel_rfl
theorem HI:Enters Tryz.prog 178:=fun _ _=>by kernel_rfl
theorem HH:Enters Tryz.prog 179:=fun _ _=>by kernel_rfl
theorem HG:Enters Tryz.prog 180:=fun _ _=>by kernel_rfl
theorem HF:Enters Tryz.prog 181:=fun _ _=>by kernel_rfl
theorem HE:Enters Tryz.prog 182:=fun _ _=>by kernel_rfl
theorem HD:Enters Tryz.prog 183:=fun _ _=>by kernel_rfl
theorem HC:Enters Tryz.prog 184:=fun _ _=>by kernel_rfl
theorem HB:Enters Tryz.prog 185:=fun _ _=>by kernel_rfl
theorem HA:Enters Tryz.prog 186:=fun _ _=>by kernel_rfl
theorem Hz:Enters Tryz.prog 187:=fun _ _=>by kernel_rfl
theorem Hy:Enters Tryz.prog 188:=fun _ _=>by kernel_rfl
theorem Hx:Enters Tryz.prog 189:=fun _ _=>by kernel_rfl
theorem Hw:Enters Tryz.prog 190:=fun _ _=>by kernel_rfl
theorem Hv:Enters Tryz.prog 191:=fun _ _=>by kernel_rfl
theorem Hu:Enters Tryz.prog 192:=fun _ _=>by kernel_rfl
theorem Ht:Enters Tryz.prog 193:=fun _ _=>by kernel_rfl
theorem Hs:Enters Tryz.prog 194:=fun _ _=>by kernel_rfl
theorem Hr:Enters Tryz.prog 195:=fun _ _=>by kernel_rfl
theorem Hq:Enters Tryz.prog 196:=fun _ _=>by kernel_rfl
theorem Ho:Enters Tryz.prog 197:=fun _ _=>by kernel_rfl
theorem Hn:Enters Tryz.prog 198:=fun _ _=>by kernel_rfl
theorem Hm:Enters Tryz.prog 199:=fun _ _=>by kernel_rfl
theorem Hl:Enters Tryz.prog 200:=fun _ _=>by kernel_rfl
theorem Hk:Enters Tryz.prog 201:=fun _ _=>by kernel_rfl
theorem Hj:Enters Tryz.prog 202:=fun _ _=>by kernel_rfl
theorem Hi:Enters Tryz.prog 203:=fun _ _=>by kernel_rfl
theorem Hh:Enters Tryz.prog 204:=fun _ _=>by kernel_rfl
theorem Hg:Enters Tryz.prog 205:=fun _ _=>by kernel_rfl
theorem Hf:Enters Tryz.prog 206:=fun _ _=>by kernel_rfl
theorem He:Enters Tryz.prog 207:=fun _ _=>by kernel_rfl
theorem Hc:Enters Tryz.prog 208:=fun _ _=>by kernel_rfl
theorem Hb:Enters Tryz.prog 209:=fun _ _=>by kernel_rfl
theorem Ha:Enters Tryz.prog 210:=fun _ _=>by kernel_rfl
theorem nA:Enters Tryz.prog 211:=fun _ _=>by kernel_rfl
theorem GZ:Enters Tryz.prog 212:=fun _ _=>by kernel_rfl
theorem GY:Enters Tryz.prog 213:=fun _ _=>by kernel_rfl
theorem GX:Enters Tryz.prog 214:=fun _ _=>by kernel_rfl
theorem GW:Enters Tryz.prog 215:=fun _ _=>by kernel_rfl
theorem GV:Enters Tryz.prog 216:=fun _ _=>by kernel_rfl
theorem GU:Enters Tryz.prog 217:=fun _ _=>by kernel_rfl
theorem GT:Enters Tryz.prog 222:=fun _ _=>by kernel_rfl
theorem GS:Enters Tryz.prog 223:=fun _ _=>by kernel_rfl
theorem GQ:Enters Tryz.prog 224:=fun _ _=>by kernel_rfl
theorem GN:Enters Tryz.prog 225:=fun _ _=>by kernel_rfl
theorem GM:Enters Tryz.prog 226:=fun _ _=>by kernel_rfl
theorem GL:Enters Tryz.prog 227:=fun _ _=>by kernel_rfl
theorem GK:Enters Tryz.prog 228:=fun _ _=>by kernel_rfl
theorem GJ:Enters Tryz.prog 229:=fun _ _=>by kernel_rfl
theorem GI:Enters Tryz.prog 230:=fun _ _=>by kernel_rfl
theorem GH:Enters Tryz.prog 231:=fun _ _=>by kernel_rfl
theorem GG:Enters Tryz.prog 232:=fun _ _=>by kernel_rfl
theorem DR:Enters Tryz.prog 233:=fun _ _=>by kernel_rfl
theorem GD:Enters Tryz.prog 234:=fun _ _=>by kernel_rfl
theorem GC:Enters Tryz.prog 235:=fun _ _=>by kernel_rfl
theorem GA:Enters Tryz.prog 236:=fun _ _=>by kernel_rfl
theorem Gz:Enters Tryz.prog 237:=fun _ _=>by kernel_rfl
theorem Gy:Enters Tryz.prog 238:=fun _ _=>by kernel_rfl
theorem Gx:Enters Tryz.prog 239:=fun _ _=>by kernel_rfl
theorem Gw:Enters Tryz.prog 240:=fun _ _=>by kernel_rfl
theorem Gv:Enters Tryz.prog 241:=fun _ _=>by kernel_rfl
theorem Gu:Enters Tryz.prog 242:=fun _ _=>by kernel_rfl
theorem Gt:Enters Tryz.prog 243:=fun _ _=>by kernel_rfl
theorem Gs:Enters Tryz.prog 244:=fun _ _=>by kernel_rfl
theorem Gr:Enters Tryz.prog 245:=fun _ _=>by kernel_rfl
theorem Gq:Enters Tryz.prog 251:=fun _ _=>by kernel_rfl
theorem Gp:Enters Tryz.prog 252:=fun _ _=>by kernel_rfl
theorem Go:Enters Tryz.prog 253:=fun _ _=>by kernel_rfl
theorem Gn:Enters Tryz.prog 254:=fun _ _=>by kernel_rfl
theorem Gm:Enters Tryz.prog 255:=fun _ _=>by kernel_rfl
theorem Gl:Enters Tryz.prog 256:=fun _ _=>by kernel_rfl
theorem Gk:Enters Tryz.prog 257:=fun _ _=>by kernel_rfl
theorem Gj:Enters Tryz.prog 258:=fun _ _=>by kernel_rfl
theorem Gi:Enters Tryz.prog 259:=fun _ _=>by kernel_rfl
theorem Gh:Enters Tryz.prog 261:=fun _ _=>by kernel_rfl
theorem Gg:Enters Tryz.prog 262:=fun _ _=>by kernel_rfl
theorem Gf:Enters Tryz.prog 264:=fun _ _=>by kernel_rfl
theorem mc:Enters Tryz.prog 267:=fun _ _=>by kernel_rfl
theorem Ge:Enters Tryz.prog 268:=fun _ _=>by kernel_rfl
theorem Gd:Enters Tryz.prog 269:=fun _ _=>by kernel_rfl
theorem Gc:Enters Tryz.prog 270:=fun _ _=>by kernel_rfl
theorem Gb:Enters Tryz.prog 271:=fun _ _=>by kernel_rfl
theorem Ga:Enters Tryz.prog 272:=fun _ _=>by kernel_rfl
theorem FZ:Enters Tryz.prog 273:=fun _ _=>by kernel_rfl
theorem FY:Enters Tryz.prog 274:=fun _ _=>by kernel_rfl
theorem DQ:Enters Tryz.prog 275:=fun _ _=>by kernel_rfl
theorem FX:Enters Tryz.prog 276:=fun _ _=>by kernel_rfl
theorem FV:Enters Tryz.prog 277:=fun _ _=>by kernel_rfl
theorem ud:Enters Tryz.prog 278:=fun _ _=>by kernel_rfl
theorem uc:Enters Tryz.prog 280:=fun _ _=>by kernel_rfl
theorem FU:Enters Tryz.prog 281:=fun _ _=>by kernel_rfl
theorem FT:Enters Tryz.prog 282:=fun _ _=>by kernel_rfl
theorem AJ:Enters Tryz.prog 284:=fun _ _=>by kernel_rfl
theorem FS:Enters Tryz.prog 289:=fun _ _=>by kernel_rfl
theorem FR:Enters Tryz.prog 290:=fun _ _=>by kernel_rfl
theorem FQ:Enters Tryz.prog 291:=fun _ _=>by kernel_rfl
theorem DP:Enters Tryz.prog 292:=fun _ _=>by kernel_rfl
theorem FP:Enters Tryz.prog 293:=fun _ _=>by kernel_rfl
theorem DO:Enters Tryz.prog 295:=fun _ _=>by kernel_rfl
theorem FO:Enters Tryz.prog 296:=fun _ _=>by kernel_rfl
theorem FN:Enters Tryz.prog 297:=fun _ _=>by kernel_rfl
theorem jz:Enters Tryz.prog 299:=fun _ _=>by kernel_rfl
theorem FM:Enters Tryz.prog 300:=fun _ _=>by kernel_rfl
theorem FL:Enters Tryz.prog 301:=fun _ _=>by kernel_rfl
theorem FK:Enters Tryz.prog 302:=fun _ _=>by kernel_rfl
theorem FJ:Enters Tryz.prog 306:=fun _ _=>by kernel_rfl
theorem FI:Enters Tryz.prog 307:=fun _ _=>by kernel_rfl
theorem FH:Enters Tryz.prog 308:=fun _ _=>by kernel_rfl
theorem FG:Enters Tryz.prog 310:=fun _ _=>by kernel_rfl
theorem FF:Enters Tryz.prog 320:=fun _ _=>by kernel_rfl
theorem FE:Enters Tryz.prog 321:=fun _ _=>by kernel_rfl
theorem FD:Enters Tryz.prog 322:=fun _ _=>by kernel_rfl
theorem FC:Enters Tryz.prog 323:=fun _ _=>by kernel_rfl
theorem DN:Enters Tryz.prog 324:=fun _ _=>by kernel_rfl
theorem ub:Enters Tryz.prog 325:=fun _ _=>by kernel_rfl
theorem FB:Enters Tryz.prog 334:=fun _ _=>by kernel_rfl
theorem DM:Enters Tryz.prog 336:=fun _ _=>by kernel_rfl
theorem mixed:Tryz.prog.follows .mixedOrders=true:=by kernel_rfl
end Go.Proofs.YtommnllbflbdmaaGreatDoor
