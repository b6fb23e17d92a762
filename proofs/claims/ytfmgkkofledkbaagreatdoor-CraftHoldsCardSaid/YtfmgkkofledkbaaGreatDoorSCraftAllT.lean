/- Facts on the tables of the types of this program, each computed by the kernel. -/
import Derived.Test.YtfmgkkofledkbaaGreatDoorGCraftAlla
import Derived.Test.YtfmgkkofledkbaaGreatDoorProg
import Derived.KernelRfl
set_option linter.all false
namespace Go.Proofs.YtfmgkkofledkbaaGreatDoor
open Go.V
instance:TyOne Tryz.prog 3:=⟨fun _=>by kernel_rfl,by kernel_rfl⟩
instance:TyInt Tryz.prog 3 .i64:=⟨by kernel_rfl⟩
instance:ZeroT Tryz.prog 3 [.int .i64 0]:=⟨by kernel_rfl⟩
instance:TyOne Tryz.prog 4:=⟨fun _=>by kernel_rfl,by kernel_rfl⟩
instance:TyBool Tryz.prog 4:=⟨by kernel_rfl⟩
instance:TyOne Tryz.prog 5:=⟨fun _=>by kernel_rfl,by kernel_rfl⟩
instance:TyInt Tryz.prog 5 .u8:=⟨by kernel_rfl⟩
instance:TyOne Tryz.prog 9:=⟨fun _=>by kernel_rfl,by kernel_rfl⟩
instance:TyStr Tryz.prog 9:=⟨by kernel_rfl⟩
instance:TyOne Tryz.prog 22:=⟨fun _=>by kernel_rfl,by kernel_rfl⟩
instance:TyPtr Tryz.prog 22:=⟨⟨123,by kernel_rfl⟩⟩
instance:TyOne Tryz.prog 23:=⟨fun _=>by kernel_rfl,by kernel_rfl⟩
instance:TyPtr Tryz.prog 23:=⟨⟨152,by kernel_rfl⟩⟩
instance:TyOne Tryz.prog 27:=⟨fun _=>by kernel_rfl,by kernel_rfl⟩
instance:TySl Tryz.prog 27 108 7 48 [.string ⟨#[]⟩,.bool false,.bool false,.bool false,.int .i64 0,.int .i64 0,.int .i64 0]:=⟨by kernel_rfl,by kernel_rfl,by decide,by decide⟩
instance:TyOne Tryz.prog 28:=⟨fun _=>by kernel_rfl,by kernel_rfl⟩
instance:TySl Tryz.prog 28 67 9 128 [.string ⟨#[]⟩,.bool false,.int .i64 0,.int .i64 0,.int .i64 0,.int .i64 0,.slice none 0 0,.slice none 0 0,.slice none 0 0]:=⟨by kernel_rfl,by kernel_rfl,by decide,by decide⟩
instance:TyOne Tryz.prog 29:=⟨fun _=>by kernel_rfl,by kernel_rfl⟩
instance:TySl Tryz.prog 29 37 2 40 [.string ⟨#[]⟩,.slice none 0 0]:=⟨by kernel_rfl,by kernel_rfl,by decide,by decide⟩
instance:TyOne Tryz.prog 30:=⟨fun _=>by kernel_rfl,by kernel_rfl⟩
instance:TySl Tryz.prog 30 115 2 40 [.string ⟨#[]⟩,.slice none 0 0]:=⟨by kernel_rfl,by kernel_rfl,by decide,by decide⟩
instance:TyAgg Tryz.prog 32 4:=⟨fun _=>by kernel_rfl,by kernel_rfl⟩
instance:Fld Tryz.prog 32 0 0:=Fld.of 0 ah
instance:Fld Tryz.prog 32 1 1:=Fld.of 0 ah
instance:Fld Tryz.prog 32 2 2:=Fld.of 0 ah
instance:Fld Tryz.prog 32 3 3:=Fld.of 0 ah
instance:TyStruct Tryz.prog 32 [(0,1),(1,1),(2,1),(3,1)]:=⟨by kernel_rfl⟩
instance:ZeroT Tryz.prog 32 [.slice none 0 0,.slice none 0 0,.slice none 0 0,.slice none 0 0]:=⟨by kernel_rfl⟩
instance:TyOne Tryz.prog 34:=⟨fun _=>by kernel_rfl,by kernel_rfl⟩
instance:TySl Tryz.prog 34 3 1 8 [.int .i64 0]:=⟨by kernel_rfl,by kernel_rfl,by decide,by decide⟩
instance:ZeroT Tryz.prog 34 [.slice none 0 0]:=⟨by kernel_rfl⟩
instance:TyOne Tryz.prog 35:=⟨fun _=>by kernel_rfl,by kernel_rfl⟩
instance:TySl Tryz.prog 35 40 2 32 [.int .i64 0,.slice none 0 0]:=⟨by kernel_rfl,by kernel_rfl,by decide,by decide⟩
instance:TyAgg Tryz.prog 37 2:=⟨fun _=>by kernel_rfl,by kernel_rfl⟩
instance:Fld Tryz.prog 37 0 0:=Fld.of 0 ah
instance:Fld Tryz.prog 37 1 1:=Fld.of 0 ah
instance:TyStruct Tryz.prog 37 [(0,1),(1,1)]:=⟨by kernel_rfl⟩
instance:ZeroT Tryz.prog 37 [.string ⟨#[]⟩,.slice none 0 0]:=⟨by kernel_rfl⟩
instance:TyOne Tryz.prog 38:=⟨fun _=>by kernel_rfl,by kernel_rfl⟩
instance:TySl Tryz.prog 38 110 2 16 [.int .i64 0,.int .i64 0]:=⟨by kernel_rfl,by kernel_rfl,by decide,by decide⟩
instance:TyAgg Tryz.prog 40 2:=⟨fun _=>by kernel_rfl,by kernel_rfl⟩
instance:Fld Tryz.prog 40 0 0:=Fld.of 0 ah
instance:Fld Tryz.prog 40 1 1:=Fld.of 0 ah
instance:TyStruct Tryz.prog 40 [(0,1),(1,1)]:=⟨by kernel_rfl⟩
instance:ZeroT Tryz.prog 40 [.int .i64 0,.slice none 0 0]:=⟨by kernel_rfl⟩
instance:TyOne Tryz.prog 43:=⟨fun _=>by kernel_rfl,by kernel_rfl⟩
instance:ZeroT Tryz.prog 43 [.int .i64 0]:=⟨by kernel_rfl⟩
instance:TyOne Tryz.prog 46:=⟨fun _=>by kernel_rfl,by kernel_rfl⟩
instance:TyPtr Tryz.prog 46:=⟨⟨128,by kernel_rfl⟩⟩
instance:TyOne Tryz.prog 48:=⟨fun _=>by kernel_rfl,by kernel_rfl⟩
instance:TySl Tryz.prog 48 5 1 1 [.int .u8 0]:=⟨by kernel_rfl,by kernel_rfl,by decide,by decide⟩
instance:TyAgg Tryz.prog 63 10:=⟨fun _=>by kernel_rfl,by kernel_rfl⟩
instance:Fld Tryz.prog 63 0 0:=Fld.of 0 ah
instance:Fld Tryz.prog 63 1 1:=Fld.of 0 ah
instance:Fld Tryz.prog 63 2 2:=Fld.of 0 ah
instance:Fld Tryz.prog 63 3 3:=Fld.of 0 ah
instance:Fld Tryz.prog 63 4 4:=Fld.of 0 ah
instance:Fld Tryz.prog 63 5 5:=Fld.of 0 ah
instance:Fld Tryz.prog 63 6 6:=Fld.of 0 ah
instance:Fld Tryz.prog 63 7 7:=Fld.of 0 ah
instance:Fld Tryz.prog 63 8 8:=Fld.of 0 ah
instance:Fld Tryz.prog 63 9 9:=Fld.of 0 ah
instance:TyStruct Tryz.prog 63 [(0,1),(1,1),(2,1),(3,1),(4,1),(5,1),(6,1),(7,1),(8,1),(9,1)]:=⟨by kernel_rfl⟩
instance:ZeroT Tryz.prog 63 [.int .i64 0,.int .i64 0,.int .i64 0,.int .i64 0,.int .i64 0,.int .i64 0,.int .i64 0,.bool false,.int .i64 0,.int .i64 0]:=⟨by kernel_rfl⟩
instance:TyAgg Tryz.prog 67 9:=⟨fun _=>by kernel_rfl,by kernel_rfl⟩
instance:Fld Tryz.prog 67 0 0:=Fld.of 0 ah
instance:Fld Tryz.prog 67 1 1:=Fld.of 0 ah
instance:Fld Tryz.prog 67 2 2:=Fld.of 0 ah
instance:Fld Tryz.prog 67 3 3:=Fld.of 0 ah
instance:Fld Tryz.prog 67 4 4:=Fld.of 0 ah
instance:Fld Tryz.prog 67 5 5:=Fld.of 0 ah
instance:Fld Tryz.prog 67 6 6:=Fld.of 0 ah
instance:Fld Tryz.prog 67 7 7:=Fld.of 0 ah
instance:Fld Tryz.prog 67 8 8:=Fld.of 0 ah
instance:TyStruct Tryz.prog 67 [(0,1),(1,1),(2,1),(3,1),(4,1),(5,1),(6,1),(7,1),(8,1)]:=⟨by kernel_rfl⟩
instance:ZeroT Tryz.prog 67 [.string ⟨#[]⟩,.bool false,.int .i64 0,.int .i64 0,.int .i64 0,.int .i64 0,.slice none 0 0,.slice none 0 0,.slice none 0 0]:=⟨by kernel_rfl⟩
instance:TyAgg Tryz.prog 72 10:=⟨fun _=>by kernel_rfl,by kernel_rfl⟩
instance:Fld Tryz.prog 72 0 0:=Fld.of 0 ah
instance:Fld Tryz.prog 72 1 1:=Fld.of 0 ah
instance:Fld Tryz.prog 72 2 2:=Fld.of 0 ah
instance:Fld Tryz.prog 72 3 3:=Fld.of 0 ah
instance:Fld Tryz.prog 72 4 4:=Fld.of 0 ah
instance:Fld Tryz.prog 72 5 5:=Fld.of 0 ah
instance:Fld Tryz.prog 72 6 6:=Fld.of 0 ah
instance:Fld Tryz.prog 72 7 7:=Fld.of 0 ah
instance:Fld Tryz.prog 72 8 8:=Fld.of 0 ah
instance:Fld Tryz.prog 72 9 9:=Fld.of 0 ah
instance:TyStruct Tryz.prog 72 [(0,1),(1,1),(2,1),(3,1),(4,1),(5,1),(6,1),(7,1),(8,1),(9,1)]:=⟨by kernel_rfl⟩
instance:ZeroT Tryz.prog 72 [.int .i64 0,.int .i64 0,.int .i64 0,.int .i64 0,.int .i64 0,.int .i64 0,.int .i64 0,.bool false,.int .i64 0,.int .i64 0]:=⟨by kernel_rfl⟩
instance:TySl Tryz.prog 77 161 3 24 [.int .i64 0,.int .i64 0,.int .i64 0]:=⟨by kernel_rfl,by kernel_rfl,by decide,by decide⟩
instance:TySl Tryz.prog 83 90 6 48 [.int .i64 0,.int .i64 0,.int .i64 0,.int .i64 0,.int .i64 0,.int .i64 0]:=⟨by kernel_rfl,by kernel_rfl,by decide,by decide⟩
instance:TyAgg Tryz.prog 87 4:=⟨fun _=>by kernel_rfl,by kernel_rfl⟩
instance:Fld Tryz.prog 87 0 0:=Fld.of 0 ah
instance:Fld Tryz.prog 87 1 1:=Fld.of 0 ah
instance:Fld Tryz.prog 87 2 2:=Fld.of 0 ah
instance:Fld Tryz.prog 87 3 3:=Fld.of 0 ah
instance:TyStruct Tryz.prog 87 [(0,1),(1,1),(2,1),(3,1)]:=⟨by kernel_rfl⟩
instance:ZeroT Tryz.prog 87 [.int .i64 0,.int .i64 0,.slice none 0 0,.int .i64 0]:=⟨by kernel_rfl⟩
instance:TyAgg Tryz.prog 90 6:=⟨fun _=>by kernel_rfl,by kernel_rfl⟩
instance:Fld Tryz.prog 90 0 0:=Fld.of 0 ah
instance:Fld Tryz.prog 90 1 1:=Fld.of 0 ah
instance:Fld Tryz.prog 90 2 2:=Fld.of 0 ah
instance:Fld Tryz.prog 90 3 3:=Fld.of 0 ah
instance:Fld Tryz.prog 90 4 4:=Fld.of 0 ah
instance:Fld Tryz.prog 90 5 5:=Fld.of 0 ah
instance:TyStruct Tryz.prog 90 [(0,1),(1,1),(2,1),(3,1),(4,1),(5,1)]:=⟨by kernel_rfl⟩
instance:ZeroT Tryz.prog 90 [.int .i64 0,.int .i64 0,.int .i64 0,.int .i64 0,.int .i64 0,.int .i64 0]:=⟨by kernel_rfl⟩
instance:TyOne Tryz.prog 101:=⟨fun _=>by kernel_rfl,by kernel_rfl⟩
instance:TyOne Tryz.prog 104:=⟨fun _=>by kernel_rfl,by kernel_rfl⟩
instance:TySl Tryz.prog 104 72 10 80 [.int .i64 0,.int .i64 0,.int .i64 0,.int .i64 0,.int .i64 0,.int .i64 0,.int .i64 0,.bool false,.int .i64 0,.int .i64 0]:=⟨by kernel_rfl,by kernel_rfl,by decide,by decide⟩
instance:Fld Tryz.prog 106 0 0:=Fld.of 0 ah
instance:Fld Tryz.prog 106 1 1:=Fld.of 0 ah
instance:Fld Tryz.prog 106 2 2:=Fld.of 0 ah
instance:Fld Tryz.prog 106 3 3:=Fld.of 0 ah
instance:Fld Tryz.prog 106 4 4:=Fld.of 0 ah
instance:TyStruct Tryz.prog 106 [(0,1),(1,1),(2,1),(3,1),(4,1)]:=⟨by kernel_rfl⟩
instance:ZeroT Tryz.prog 106 [.pointer none,.slice none 0 0,.slice none 0 0,.int .i64 0,.int .i64 0]:=⟨by kernel_rfl⟩
instance:TyAgg Tryz.prog 108 7:=⟨fun _=>by kernel_rfl,by kernel_rfl⟩
instance:Fld Tryz.prog 108 0 0:=Fld.of 0 ah
instance:Fld Tryz.prog 108 1 1:=Fld.of 0 ah
instance:Fld Tryz.prog 108 2 2:=Fld.of 0 ah
instance:Fld Tryz.prog 108 3 3:=Fld.of 0 ah
instance:Fld Tryz.prog 108 4 4:=Fld.of 0 ah
instance:Fld Tryz.prog 108 5 5:=Fld.of 0 ah
instance:Fld Tryz.prog 108 6 6:=Fld.of 0 ah
instance:TyStruct Tryz.prog 108 [(0,1),(1,1),(2,1),(3,1),(4,1),(5,1),(6,1)]:=⟨by kernel_rfl⟩
instance:ZeroT Tryz.prog 108 [.string ⟨#[]⟩,.bool false,.bool false,.bool false,.int .i64 0,.int .i64 0,.int .i64 0]:=⟨by kernel_rfl⟩
instance:TyAgg Tryz.prog 110 2:=⟨fun _=>by kernel_rfl,by kernel_rfl⟩
instance:Fld Tryz.prog 110 0 0:=Fld.of 0 ah
instance:Fld Tryz.prog 110 1 1:=Fld.of 0 ah
instance:TyStruct Tryz.prog 110 [(0,1),(1,1)]:=⟨by kernel_rfl⟩
instance:ZeroT Tryz.prog 110 [.int .i64 0,.int .i64 0]:=⟨by kernel_rfl⟩
instance:TyAgg Tryz.prog 112 2:=⟨fun _=>by kernel_rfl,by kernel_rfl⟩
instance:Fld Tryz.prog 112 0 0:=Fld.of 0 ah
instance:Fld Tryz.prog 112 1 1:=Fld.of 0 ah
instance:TyStruct Tryz.prog 112 [(0,1),(1,1)]:=⟨by kernel_rfl⟩
instance:ZeroT Tryz.prog 112 [.int .i64 0,.int .i64 0]:=⟨by kernel_rfl⟩
instance:TyOne Tryz.prog 113:=⟨fun _=>by kernel_rfl,by kernel_rfl⟩
instance:TySl Tryz.prog 113 112 2 16 [.int .i64 0,.int .i64 0]:=⟨by kernel_rfl,by kernel_rfl,by decide,by decide⟩
instance:TyAgg Tryz.prog 115 2:=⟨fun _=>by kernel_rfl,by kernel_rfl⟩
instance:Fld Tryz.prog 115 0 0:=Fld.of 0 ah
instance:Fld Tryz.prog 115 1 1:=Fld.of 0 ah
instance:TyStruct Tryz.prog 115 [(0,1),(1,1)]:=⟨by kernel_rfl⟩
instance:ZeroT Tryz.prog 115 [.string ⟨#[]⟩,.slice none 0 0]:=⟨by kernel_rfl⟩
instance:TyOne Tryz.prog 116:=⟨fun _=>by kernel_rfl,by kernel_rfl⟩
instance:TyOne Tryz.prog 117:=⟨fun _=>by kernel_rfl,by kernel_rfl⟩
instance:Fld Tryz.prog 119 0 0:=Fld.of 0 ah
instance:Fld Tryz.prog 119 1 1:=Fld.of 0 ah
instance:TyStruct Tryz.prog 119 [(0,1),(1,1)]:=⟨by kernel_rfl⟩
instance:ZeroT Tryz.prog 119 [.pointer none,.int .i64 0]:=⟨by kernel_rfl⟩
instance:TyOne Tryz.prog 120:=⟨fun _=>by kernel_rfl,by kernel_rfl⟩
instance:TySl Tryz.prog 120 63 10 80 [.int .i64 0,.int .i64 0,.int .i64 0,.int .i64 0,.int .i64 0,.int .i64 0,.int .i64 0,.bool false,.int .i64 0,.int .i64 0]:=⟨by kernel_rfl,by kernel_rfl,by decide,by decide⟩
instance:TyOne Tryz.prog 121:=⟨fun _=>by kernel_rfl,by kernel_rfl⟩
instance:TyMap Tryz.prog 121 3 34:=⟨by kernel_rfl⟩
instance:Fld Tryz.prog 123 0 0:=Fld.of 1 ah
instance:Fld Tryz.prog 123 1 2:=Fld.of 0 ah
instance:Fld Tryz.prog 123 2 3:=Fld.of 0 ah
instance:Fld Tryz.prog 123 3 4:=Fld.of 0 ah
instance:Fld Tryz.prog 123 4 5:=Fld.of 0 ah
instance:TyStruct Tryz.prog 123 [(0,2),(2,1),(3,1),(4,1),(5,1)]:=⟨by kernel_rfl⟩
instance:ZeroT Tryz.prog 123 [.pointer none,.int .i64 0,.slice none 0 0,.slice none 0 0,.map none,.int .i64 0]:=⟨by kernel_rfl⟩
instance:TyOne Tryz.prog 125:=⟨fun _=>by kernel_rfl,by kernel_rfl⟩
instance:TyInt Tryz.prog 125 .u64:=⟨by kernel_rfl⟩
instance:ZeroT Tryz.prog 125 [.int .u64 0]:=⟨by kernel_rfl⟩
instance:Fld Tryz.prog 128 0 0:=Fld.of 0 ah
instance:Fld Tryz.prog 128 1 1:=Fld.of 0 ah
instance:TyStruct Tryz.prog 128 [(0,1),(1,1)]:=⟨by kernel_rfl⟩
instance:ZeroT Tryz.prog 128 [.int .u64 0,.int .i64 0]:=⟨by kernel_rfl⟩
instance:TyOne Tryz.prog 135:=⟨fun _=>by kernel_rfl,by kernel_rfl⟩
instance:TySl Tryz.prog 135 211 3 24 [.int .i64 0,.int .i64 0,.int .i64 0]:=⟨by kernel_rfl,by kernel_rfl,by decide,by decide⟩
instance:ZeroT Tryz.prog 135 [.slice none 0 0]:=⟨by kernel_rfl⟩
instance:TyAgg Tryz.prog 137 5:=⟨fun _=>by kernel_rfl,by kernel_rfl⟩
instance:Fld Tryz.prog 137 0 0:=Fld.of 0 ah
instance:Fld Tryz.prog 137 1 1:=Fld.of 0 ah
instance:Fld Tryz.prog 137 2 2:=Fld.of 0 ah
instance:Fld Tryz.prog 137 3 3:=Fld.of 0 ah
instance:Fld Tryz.prog 137 4 4:=Fld.of 0 ah
instance:TyStruct Tryz.prog 137 [(0,1),(1,1),(2,1),(3,1),(4,1)]:=⟨by kernel_rfl⟩
instance:ZeroT Tryz.prog 137 [.int .i64 0,.int .i64 0,.int .i64 0,.int .i64 0,.slice none 0 0]:=⟨by kernel_rfl⟩
instance:TyOne Tryz.prog 138:=⟨fun _=>by kernel_rfl,by kernel_rfl⟩
instance:TySl Tryz.prog 138 137 5 56 [.int .i64 0,.int .i64 0,.int .i64 0,.int .i64 0,.slice none 0 0]:=⟨by kernel_rfl,by kernel_rfl,by decide,by decide⟩
instance:TyAgg Tryz.prog 140 7:=⟨fun _=>by kernel_rfl,by kernel_rfl⟩
instance:Fld Tryz.prog 140 0 0:=Fld.of 0 ah
instance:Fld Tryz.prog 140 1 1:=Fld.of 0 ah
instance:Fld Tryz.prog 140 2 2:=Fld.of 0 ah
instance:Fld Tryz.prog 140 3 3:=Fld.of 0 ah
instance:Fld Tryz.prog 140 4 4:=Fld.of 0 ah
instance:Fld Tryz.prog 140 5 5:=Fld.of 0 ah
instance:Fld Tryz.prog 140 6 6:=Fld.of 0 ah
instance:TyStruct Tryz.prog 140 [(0,1),(1,1),(2,1),(3,1),(4,1),(5,1),(6,1)]:=⟨by kernel_rfl⟩
instance:ZeroT Tryz.prog 140 [.int .i64 0,.int .i64 0,.int .i64 0,.int .i64 0,.int .i64 0,.int .i64 0,.slice none 0 0]:=⟨by kernel_rfl⟩
instance:TyOne Tryz.prog 145:=⟨fun _=>by kernel_rfl,by kernel_rfl⟩
instance:TyOne Tryz.prog 146:=⟨fun _=>by kernel_rfl,by kernel_rfl⟩
instance:TyMap Tryz.prog 146 158 135:=⟨by kernel_rfl⟩
instance:TyOne Tryz.prog 147:=⟨fun _=>by kernel_rfl,by kernel_rfl⟩
instance:TyMap Tryz.prog 147 3 3:=⟨by kernel_rfl⟩
instance:TyOne Tryz.prog 148:=⟨fun _=>by kernel_rfl,by kernel_rfl⟩
instance:TySl Tryz.prog 148 140 7 72 [.int .i64 0,.int .i64 0,.int .i64 0,.int .i64 0,.int .i64 0,.int .i64 0,.slice none 0 0]:=⟨by kernel_rfl,by kernel_rfl,by decide,by decide⟩
instance:TyOne Tryz.prog 149:=⟨fun _=>by kernel_rfl,by kernel_rfl⟩
instance:TySl Tryz.prog 149 182 11 120 [.int .i64 0,.int .i64 0,.int .i64 0,.int .i64 0,.int .i64 0,.int .i64 0,.int .i64 0,.int .i64 0,.int .i64 0,.slice none 0 0,.slice none 0 0]:=⟨by kernel_rfl,by kernel_rfl,by decide,by decide⟩
instance:TyOne Tryz.prog 150:=⟨fun _=>by kernel_rfl,by kernel_rfl⟩
instance:TyMap Tryz.prog 150 3 135:=⟨by kernel_rfl⟩
instance:Fld Tryz.prog 152 0 0:=Fld.of 0 ah
instance:Fld Tryz.prog 152 1 1:=Fld.of 3 ah
instance:Fld Tryz.prog 152 2 5:=Fld.of 0 ah
instance:Fld Tryz.prog 152 3 6:=Fld.of 0 ah
instance:Fld Tryz.prog 152 4 7:=Fld.of 0 ah
instance:Fld Tryz.prog 152 5 8:=Fld.of 0 ah
instance:Fld Tryz.prog 152 6 9:=Fld.of 0 ah
instance:Fld Tryz.prog 152 7 10:=Fld.of 0 ah
instance:TyStruct Tryz.prog 152 [(0,1),(1,4),(5,1),(6,1),(7,1),(8,1),(9,1),(10,1)]:=⟨by kernel_rfl⟩
instance:ZeroT Tryz.prog 152 [.int .i64 0,.slice none 0 0,.slice none 0 0,.slice none 0 0,.slice none 0 0,.map none,.map none,.slice none 0 0,.slice none 0 0,.map none,.map none]:=⟨by kernel_rfl⟩
instance:TyAgg Tryz.prog 158 2:=⟨fun _=>by kernel_rfl,by kernel_rfl⟩
instance:Fld Tryz.prog 158 0 0:=Fld.of 0 ah
instance:Fld Tryz.prog 158 1 1:=Fld.of 0 ah
instance:TyStruct Tryz.prog 158 [(0,1),(1,1)]:=⟨by kernel_rfl⟩
instance:ZeroT Tryz.prog 158 [.int .i64 0,.int .i64 0]:=⟨by kernel_rfl⟩
instance:TyAgg Tryz.prog 161 3:=⟨fun _=>by kernel_rfl,by kernel_rfl⟩
instance:Fld Tryz.prog 161 0 0:=Fld.of 0 ah
instance:Fld Tryz.prog 161 1 1:=Fld.of 0 ah
instance:Fld Tryz.prog 161 2 2:=Fld.of 0 ah
instance:TyStruct Tryz.prog 161 [(0,1),(1,1),(2,1)]:=⟨by kernel_rfl⟩
instance:ZeroT Tryz.prog 161 [.int .i64 0,.int .i64 0,.int .i64 0]:=⟨by kernel_rfl⟩
instance:TyOne Tryz.prog 171:=⟨fun _=>by kernel_rfl,by kernel_rfl⟩
instance:TySl Tryz.prog 171 224 3 40 [.int .i64 0,.int .i64 0,.slice none 0 0]:=⟨by kernel_rfl,by kernel_rfl,by decide,by decide⟩
instance:Fld Tryz.prog 173 0 0:=Fld.of 0 ah
instance:Fld Tryz.prog 173 1 1:=Fld.of 3 ah
instance:Fld Tryz.prog 173 2 5:=Fld.of 0 ah
instance:Fld Tryz.prog 173 3 6:=Fld.of 0 ah
instance:Fld Tryz.prog 173 4 7:=Fld.of 0 ah
instance:TyStruct Tryz.prog 173 [(0,1),(1,4),(5,1),(6,1),(7,1)]:=⟨by kernel_rfl⟩
instance:ZeroT Tryz.prog 173 [.int .i64 0,.slice none 0 0,.slice none 0 0,.slice none 0 0,.slice none 0 0,.slice none 0 0,.slice none 0 0,.slice none 0 0]:=⟨by kernel_rfl⟩
instance:TyAgg Tryz.prog 182 11:=⟨fun _=>by kernel_rfl,by kernel_rfl⟩
instance:Fld Tryz.prog 182 0 0:=Fld.of 0 ah
instance:Fld Tryz.prog 182 1 1:=Fld.of 0 ah
instance:Fld Tryz.prog 182 2 2:=Fld.of 0 ah
instance:Fld Tryz.prog 182 3 3:=Fld.of 0 ah
instance:Fld Tryz.prog 182 4 4:=Fld.of 0 ah
instance:Fld Tryz.prog 182 5 5:=Fld.of 0 ah
instance:Fld Tryz.prog 182 6 6:=Fld.of 0 ah
instance:Fld Tryz.prog 182 7 7:=Fld.of 0 ah
instance:Fld Tryz.prog 182 8 8:=Fld.of 0 ah
instance:Fld Tryz.prog 182 9 9:=Fld.of 0 ah
instance:Fld Tryz.prog 182 10 10:=Fld.of 0 ah
instance:TyStruct Tryz.prog 182 [(0,1),(1,1),(2,1),(3,1),(4,1),(5,1),(6,1),(7,1),(8,1),(9,1),(10,1)]:=⟨by kernel_rfl⟩
instance:ZeroT Tryz.prog 182 [.int .i64 0,.int .i64 0,.int .i64 0,.int .i64 0,.int .i64 0,.int .i64 0,.int .i64 0,.int .i64 0,.int .i64 0,.slice none 0 0,.slice none 0 0]:=⟨by kernel_rfl⟩
instance:TyInt Tryz.prog 195 .u64:=⟨by kernel_rfl⟩
instance:Fld Tryz.prog 200 0 0:=Fld.of 0 ah
instance:Fld Tryz.prog 200 1 1:=Fld.of 6 ah
instance:Fld Tryz.prog 200 2 8:=Fld.of 0 ah
instance:Fld Tryz.prog 200 3 9:=Fld.of 0 ah
instance:Fld Tryz.prog 200 4 10:=Fld.of 0 ah
instance:Fld Tryz.prog 200 5 11:=Fld.of 0 ah
instance:Fld Tryz.prog 200 6 12:=Fld.of 0 ah
instance:Fld Tryz.prog 200 7 13:=Fld.of 0 ah
instance:TyStruct Tryz.prog 200 [(0,1),(1,7),(8,1),(9,1),(10,1),(11,1),(12,1),(13,1)]:=⟨by kernel_rfl⟩
instance:ZeroT Tryz.prog 200 [.pointer none,.int .i64 0,.int .i64 0,.int .i64 0,.int .i64 0,.int .i64 0,.int .i64 0,.slice none 0 0,.map none,.map none,.map none,.map none,.slice none 0 0,.slice none 0 0]:=⟨by kernel_rfl⟩
instance:TyOne Tryz.prog 205:=⟨fun _=>by kernel_rfl,by kernel_rfl⟩
instance:ZeroT Tryz.prog 205 [.nilFunc]:=⟨by kernel_rfl⟩
instance:Fld Tryz.prog 209 0 0:=Fld.of 0 ah
instance:Fld Tryz.prog 209 1 1:=Fld.of 0 ah
instance:Fld Tryz.prog 209 2 2:=Fld.of 0 ah
instance:TyStruct Tryz.prog 209 [(0,1),(1,1),(2,1)]:=⟨by kernel_rfl⟩
instance:ZeroT Tryz.prog 209 [.slice none 0 0,.string ⟨#[]⟩,.int .i64 0]:=⟨by kernel_rfl⟩
instance:TyAgg Tryz.prog 211 3:=⟨fun _=>by kernel_rfl,by kernel_rfl⟩
instance:Fld Tryz.prog 211 0 0:=Fld.of 0 ah
instance:Fld Tryz.prog 211 1 1:=Fld.of 0 ah
instance:Fld Tryz.prog 211 2 2:=Fld.of 0 ah
instance:TyStruct Tryz.prog 211 [(0,1),(1,1),(2,1)]:=⟨by kernel_rfl⟩
instance:ZeroT Tryz.prog 211 [.int .i64 0,.int .i64 0,.int .i64 0]:=⟨by kernel_rfl⟩
instance:Fld Tryz.prog 224 0 0:=Fld.of 0 ah
instance:Fld Tryz.prog 224 1 1:=Fld.of 0 ah
instance:Fld Tryz.prog 224 2 2:=Fld.of 0 ah
instance:TyStruct Tryz.prog 224 [(0,1),(1,1),(2,1)]:=⟨by kernel_rfl⟩
instance:ZeroT Tryz.prog 224 [.int .i64 0,.int .i64 0,.slice none 0 0]:=⟨by kernel_rfl⟩
instance:TySl Tryz.prog 234 236 1 24 [.slice none 0 0]:=⟨by kernel_rfl,by kernel_rfl,by decide,by decide⟩
instance:TyOne Tryz.prog 236:=⟨fun _=>by kernel_rfl,by kernel_rfl⟩
instance:TySl Tryz.prog 236 9 1 16 [.string ⟨#[]⟩]:=⟨by kernel_rfl,by kernel_rfl,by decide,by decide⟩
instance:TySl Tryz.prog 244 38 1 24 [.slice none 0 0]:=⟨by kernel_rfl,by kernel_rfl,by decide,by decide⟩
instance:TySl Tryz.prog 246 4 1 1 [.bool false]:=⟨by kernel_rfl,by kernel_rfl,by decide,by decide⟩
instance:TySl Tryz.prog 247 43 1 8 [.int .i64 0]:=⟨by kernel_rfl,by kernel_rfl,by decide,by decide⟩
instance:TyOne Tryz.prog 297:=⟨fun _=>by kernel_rfl,by kernel_rfl⟩
instance:ZeroT Tryz.prog 297 [.nilFunc]:=⟨by kernel_rfl⟩
instance:TySl Tryz.prog 307 311 4 40 [.int .i64 0,.string ⟨#[]⟩,.int .i64 0,.int .i64 0]:=⟨by kernel_rfl,by kernel_rfl,by decide,by decide⟩
instance:TyAgg Tryz.prog 311 4:=⟨fun _=>by kernel_rfl,by kernel_rfl⟩
instance:Fld Tryz.prog 311 0 0:=Fld.of 0 ah
instance:Fld Tryz.prog 311 1 1:=Fld.of 0 ah
instance:Fld Tryz.prog 311 2 2:=Fld.of 0 ah
instance:TyStruct Tryz.prog 311 [(0,1),(1,1),(2,1),(3,1)]:=⟨by kernel_rfl⟩
instance:ZeroT Tryz.prog 311 [.int .i64 0,.string ⟨#[]⟩,.int .i64 0,.int .i64 0]:=⟨by kernel_rfl⟩
instance:TyOne Tryz.prog 317:=⟨fun _=>by kernel_rfl,by kernel_rfl⟩
instance:TyAgg Tryz.prog 319 4:=⟨fun _=>by kernel_rfl,by kernel_rfl⟩
instance:Fld Tryz.prog 319 0 0:=Fld.of 0 ah
instance:Fld Tryz.prog 319 1 1:=Fld.of 0 ah
instance:Fld Tryz.prog 319 2 2:=Fld.of 0 ah
instance:Fld Tryz.prog 319 3 3:=Fld.of 0 ah
instance:TyStruct Tryz.prog 319 [(0,1),(1,1),(2,1),(3,1)]:=⟨by kernel_rfl⟩
instance:ZeroT Tryz.prog 319 [.nilFunc,.nilFunc,.bool false,.nilFunc]:=⟨by kernel_rfl⟩
instance:TyOne Tryz.prog 340:=⟨fun _=>by kernel_rfl,by kernel_rfl⟩
instance:TySl Tryz.prog 340 343 4 40 [.int .i64 0,.string ⟨#[]⟩,.int .i64 0,.int .i64 0]:=⟨by kernel_rfl,by kernel_rfl,by decide,by decide⟩
instance:ZeroT Tryz.prog 340 [.slice none 0 0]:=⟨by kernel_rfl⟩
instance:TyAgg Tryz.prog 343 4:=⟨fun _=>by kernel_rfl,by kernel_rfl⟩
instance:Fld Tryz.prog 343 0 0:=Fld.of 0 ah
instance:Fld Tryz.prog 343 1 1:=Fld.of 0 ah
instance:TyStruct Tryz.prog 343 [(0,1),(1,1),(2,1),(3,1)]:=⟨by kernel_rfl⟩
instance:ZeroT Tryz.prog 343 [.int .i64 0,.string ⟨#[]⟩,.int .i64 0,.int .i64 0]:=⟨by kernel_rfl⟩
instance:TyOne Tryz.prog 370:=⟨fun _=>by kernel_rfl,by kernel_rfl⟩
instance:TySl Tryz.prog 370 125 1 8 [.int .u64 0]:=⟨by kernel_rfl,by kernel_rfl,by decide,by decide⟩
instance:ZeroT Tryz.prog 370 [.slice none 0 0]:=⟨by kernel_rfl⟩
theorem en4:Enters Tryz.prog 4:=fun _ _=>by kernel_rfl
theorem en5:Enters Tryz.prog 5:=fun _ _=>by kernel_rfl
theorem en6:Enters Tryz.prog 6:=fun _ _=>by kernel_rfl
theorem en7:Enters Tryz.prog 7:=fun _ _=>by kernel_rfl
theorem en9:Enters Tryz.prog 9:=fun _ _=>by kernel_rfl
theorem en10:Enters Tryz.prog 10:=fun _ _=>by kernel_rfl
theorem en11:Enters Tryz.prog 11:=fun _ _=>by kernel_rfl
theorem en12:Enters Tryz.prog 12:=fun _ _=>by kernel_rfl
theorem en14:Enters Tryz.prog 14:=fun _ _=>by kernel_rfl
theorem en15:Enters Tryz.prog 15:=fun _ _=>by kernel_rfl
theorem en16:Enters Tryz.prog 16:=fun _ _=>by kernel_rfl
theorem en17:Enters Tryz.prog 17:=fun _ _=>by kernel_rfl
theorem en18:Enters Tryz.prog 18:=fun _ _=>by kernel_rfl
theorem en19:Enters Tryz.prog 19:=fun _ _=>by kernel_rfl
theorem en21:Enters Tryz.prog 21:=fun _ _=>by kernel_rfl
theorem en22:Enters Tryz.prog 22:=fun _ _=>by kernel_rfl
theorem en23:Enters Tryz.prog 23:=fun _ _=>by kernel_rfl
theorem en24:Enters Tryz.prog 24:=fun _ _=>by kernel_rfl
theorem en25:Enters Tryz.prog 25:=fun _ _=>by kernel_rfl
theorem en26:Enters Tryz.prog 26:=fun _ _=>by kernel_rfl
theorem en27:Enters Tryz.prog 27:=fun _ _=>by kernel_rfl
theorem en28:Enters Tryz.prog 28:=fun _ _=>by kernel_rfl
theorem en29:Enters Tryz.prog 29:=fun _ _=>by kernel_rfl
theorem en30:Enters Tryz.prog 30:=fun _ _=>by kernel_rfl
theorem en31:Enters Tryz.prog 31:=fun _ _=>by kernel_rfl
theorem en32:Enters Tryz.prog 32:=fun _ _=>by kernel_rfl
theorem en33:Enters Tryz.prog 33:=fun _ _=>by kernel_rfl
theorem en34:Enters Tryz.prog 34:=fun _ _=>by kernel_rfl
theorem en35:Enters Tryz.prog 35:=fun _ _=>by kernel_rfl
theorem en36:Enters Tryz.prog 36:=fun _ _=>by kernel_rfl
theorem en37:Enters Tryz.prog 37:=fun _ _=>by kernel_rfl
theorem en38:Enters Tryz.prog 38:=fun _ _=>by kernel_rfl
theorem en39:Enters Tryz.prog 39:=fun _ _=>by kernel_rfl
theorem en40:Enters Tryz.prog 40:=fun _ _=>by kernel_rfl
theorem en41:Enters Tryz.prog 41:=fun _ _=>by kernel_rfl
theorem en42:Enters Tryz.prog 42:=fun _ _=>by kernel_rfl
theorem en43:Enters Tryz.prog 43:=fun _ _=>by kernel_rfl
theorem en44:Enters Tryz.prog 44:=fun _ _=>by kernel_rfl
theorem en45:Enters Tryz.prog 45:=fun _ _=>by kernel_rfl
theorem en46:Enters Tryz.prog 46:=fun _ _=>by kernel_rfl
theorem en47:Enters Tryz.prog 47:=fun _ _=>by kernel_rfl
theorem en49:Enters Tryz.prog 49:=fun _ _=>by kernel_rfl
theorem en50:Enters Tryz.prog 50:=fun _ _=>by kernel_rfl
theorem en51:Enters Tryz.prog 51:=fun _ _=>by kernel_rfl
theorem en52:Enters Tryz.prog 52:=fun _ _=>by kernel_rfl
theorem en53:Enters Tryz.prog 53:=fun _ _=>by kernel_rfl
theorem en54:Enters Tryz.prog 54:=fun _ _=>by kernel_rfl
theorem en55:Enters Tryz.prog 55:=fun _ _=>by kernel_rfl
theorem en56:Enters Tryz.prog 56:=fun _ _=>by kernel_rfl
theorem en57:Enters Tryz.prog 57:=fun _ _=>by kernel_rfl
theorem en58:Enters Tryz.prog 58:=fun _ _=>by kernel_rfl
theorem en60:Enters Tryz.prog 60:=fun _ _=>by kernel_rfl
theorem en62:Enters Tryz.prog 62:=fun _ _=>by kernel_rfl
theorem en63:Enters Tryz.prog 63:=fun _ _=>by kernel_rfl
theorem en64:Enters Tryz.prog 64:=fun _ _=>by kernel_rfl
theorem en65:Enters Tryz.prog 65:=fun _ _=>by kernel_rfl
theorem en66:Enters Tryz.prog 66:=fun _ _=>by kernel_rfl
theorem en67:Enters Tryz.prog 67:=fun _ _=>by kernel_rfl
theorem en68:Enters Tryz.prog 68:=fun _ _=>by kernel_rfl
theorem en69:Enters Tryz.prog 69:=fun _ _=>by kernel_rfl
theorem en70:Enters Tryz.prog 70:=fun _ _=>by kernel_rfl
theorem en71:Enters Tryz.prog 71:=fun _ _=>by kernel_rfl
theorem en72:Enters Tryz.prog 72:=fun _ _=>by kernel_rfl
theorem en73:Enters Tryz.prog 73:=fun _ _=>by kernel_rfl
theorem en74:Enters Tryz.prog 74:=fun _ _=>by kernel_rfl
theorem en75:Enters Tryz.prog 75:=fun _ _=>by kernel_rfl
theorem en76:Enters Tryz.prog 76:=fun _ _=>by kernel_rfl
theorem en77:Enters Tryz.prog 77:=fun _ _=>by kernel_rfl
theorem en78:Enters Tryz.prog 78:=fun _ _=>by kernel_rfl
theorem en79:Enters Tryz.prog 79:=fun _ _=>by kernel_rfl
theorem en80:Enters Tryz.prog 80:=fun _ _=>by kernel_rfl
theorem en81:Enters Tryz.prog 81:=fun _ _=>by kernel_rfl
theorem en82:Enters Tryz.prog 82:=fun _ _=>by kernel_rfl
theorem en83:Enters Tryz.prog 83:=fun _ _=>by kernel_rfl
theorem en84:Enters Tryz.prog 84:=fun _ _=>by kernel_rfl
theorem en85:Enters Tryz.prog 85:=fun _ _=>by kernel_rfl
theorem en86:Enters Tryz.prog 86:=fun _ _=>by kernel_rfl
theorem en87:Enters Tryz.prog 87:=fun _ _=>by kernel_rfl
theorem en88:Enters Tryz.prog 88:=fun _ _=>by kernel_rfl
theorem en89:Enters Tryz.prog 89:=fun _ _=>by kernel_rfl
theorem en90:Enters Tryz.prog 90:=fun _ _=>by kernel_rfl
theorem en91:Enters Tryz.prog 91:=fun _ _=>by kernel_rfl
theorem en92:Enters Tryz.prog 92:=fun _ _=>by kernel_rfl
theorem en93:Enters Tryz.prog 93:=fun _ _=>by kernel_rfl
theorem en94:Enters Tryz.prog 94:=fun _ _=>by kernel_rfl
theorem en95:Enters Tryz.prog 95:=fun _ _=>by kernel_rfl
theorem en96:Enters Tryz.prog 96:=fun _ _=>by kernel_rfl
theorem en97:Enters Tryz.prog 97:=fun _ _=>by kernel_rfl
theorem en98:Enters Tryz.prog 98:=fun _ _=>by kernel_rfl
theorem en99:Enters Tryz.prog 99:=fun _ _=>by kernel_rfl
theorem JG:Enters Tryz.prog 100:=fun _ _=>by kernel_rfl
theorem JF:Enters Tryz.prog 101:=fun _ _=>by kernel_rfl
theorem JE:Enters Tryz.prog 102:=fun _ _=>by kernel_rfl
theorem JD:Enters Tryz.prog 103:=fun _ _=>by kernel_rfl
theorem JC:Enters Tryz.prog 104:=fun _ _=>by kernel_rfl
theorem JB:Enters Tryz.prog 105:=fun _ _=>by kernel_rfl
theorem JA:Enters Tryz.prog 106:=fun _ _=>by kernel_rfl
theorem Jz:Enters Tryz.prog 107:=fun _ _=>by kernel_rfl
theorem Jy:Enters Tryz.prog 108:=fun _ _=>by kernel_rfl
theorem tT:Enters Tryz.prog 109:=fun _ _=>by kernel_rfl
theorem Jw:Enters Tryz.prog 110:=fun _ _=>by kernel_rfl
theorem Jv:Enters Tryz.prog 111:=fun _ _=>by kernel_rfl
theorem Ju:Enters Tryz.prog 112:=fun _ _=>by kernel_rfl
theorem Jt:Enters Tryz.prog 113:=fun _ _=>by kernel_rfl
theorem tS:Enters Tryz.prog 116:=fun _ _=>by kernel_rfl
theorem Js:Enters Tryz.prog 117:=fun _ _=>by kernel_rfl
theorem Jr:Enters Tryz.prog 118:=fun _ _=>by kernel_rfl
theorem Jq:Enters Tryz.prog 119:=fun _ _=>by kernel_rfl
theorem Jp:Enters Tryz.prog 121:=fun _ _=>by kernel_rfl
theorem Jo:Enters Tryz.prog 122:=fun _ _=>by kernel_rfl
theorem Jn:Enters Tryz.prog 123:=fun _ _=>by kernel_rfl
theorem Jm:Enters Tryz.prog 124:=fun _ _=>by kernel_rfl
theorem Jl:Enters Tryz.prog 125:=fun _ _=>by kernel_rfl
theorem Jk:Enters Tryz.prog 126:=fun _ _=>by kernel_rfl
theorem Ez:Enters Tryz.prog 127:=fun _ _=>by kernel_rfl
theorem Jj:Enters Tryz.prog 128:=fun _ _=>by kernel_rfl
theorem Ji:Enters Tryz.prog 129:=fun _ _=>by kernel_rfl
theorem Jh:Enters Tryz.prog 130:=fun _ _=>by kernel_rfl
theorem Jg:Enters Tryz.prog 131:=fun _ _=>by kernel_rfl
theorem Jf:Enters Tryz.prog 132:=fun _ _=>by kernel_rfl
theorem Je:Enters Tryz.prog 133:=fun _ _=>by kernel_rfl
theorem Jd:Enters Tryz.prog 134:=fun _ _=>by kernel_rfl
theorem Jc:Enters Tryz.prog 135:=fun _ _=>by kernel_rfl
theorem Jb:Enters Tryz.prog 136:=fun _ _=>by kernel_rfl
theorem Ja:Enters Tryz.prog 137:=fun _ _=>by kernel_rfl
theorem IZ:Enters Tryz.prog 138:=fun _ _=>by kernel_rfl
theorem IY:Enters Tryz.prog 139:=fun _ _=>by kernel_rfl
theorem IX:Enters Tryz.prog 140:=fun _ _=>by kernel_rfl
theorem IW:Enters Tryz.prog 141:=fun _ _=>by kernel_rfl
theorem IV:Enters Tryz.prog 142:=fun _ _=>by kernel_rfl
theorem IU:Enters Tryz.prog 143:=fun _ _=>by kernel_rfl
theorem IT:Enters Tryz.prog 144:=fun _ _=>by kernel_rfl
theorem IS:Enters Tryz.prog 145:=fun _ _=>by kernel_rfl
theorem IR:Enters Tryz.prog 146:=fun _ _=>by kernel_rfl
theorem IQ:Enters Tryz.prog 147:=fun _ _=>by kernel_rfl
theorem IP:Enters Tryz.prog 148:=fun _ _=>by kernel_rfl
theorem IO:Enters Tryz.prog 150:=fun _ _=>by kernel_rfl
theorem IN:Enters Tryz.prog 151:=fun _ _=>by kernel_rfl
theorem IM:Enters Tryz.prog 152:=fun _ _=>by kernel_rfl
theorem IL:Enters Tryz.prog 153:=fun _ _=>by kernel_rfl
theorem IK:Enters Tryz.prog 154:=fun _ _=>by kernel_rfl
theorem IJ:Enters Tryz.prog 155:=fun _ _=>by kernel_rfl
theorem II:Enters Tryz.prog 156:=fun _ _=>by kernel_rfl
theorem IH:Enters Tryz.prog 157:=fun _ _=>by kernel_rfl
theorem IG:Enters Tryz.prog 158:=fun _ _=>by kernel_rfl
theorem Bg:Enters Tryz.prog 159:=fun _ _=>by kernel_rfl
theorem IF:Enters Tryz.prog 160:=fun _ _=>by kernel_rfl
theorem Ey:Enters Tryz.prog 161:=fun _ _=>by kernel_rfl
theorem IE:Enters Tryz.prog 162:=fun _ _=>by kernel_rfl
theorem ID:Enters Tryz.prog 163:=fun _ _=>by kernel_rfl
theorem IC:Enters Tryz.prog 164:=fun _ _=>by kernel_rfl
theorem IB:Enters Tryz.prog 165:=fun _ _=>by kernel_rfl
theorem IA:Enters Tryz.prog 175:=fun _ _=>by kernel_rfl
theorem Iz:Enters Tryz.prog 176:=fun _ _=>by kernel_rfl
theorem Iy:Enters Tryz.prog 185:=fun _ _=>by kernel_rfl
theorem Ix:Enters Tryz.prog 186:=fun _ _=>by kernel_rfl
theorem Iw:Enters Tryz.prog 187:=fun _ _=>by kernel_rfl
theorem Iv:Enters Tryz.prog 188:=fun _ _=>by kernel_rfl
theorem Iu:Enters Tryz.prog 189:=fun _ _=>by kernel_rfl
theorem It:Enters Tryz.prog 190:=fun _ _=>by kernel_rfl
theorem Is:Enters Tryz.prog 191:=fun _ _=>by kernel_rfl
theorem Ir:Enters Tryz.prog 192:=fun _ _=>by kernel_rfl
theorem Iq:Enters Tryz.prog 193:=fun _ _=>by kernel_rfl
theorem Ip:Enters Tryz.prog 194:=fun _ _=>by kernel_rfl
theorem Io:Enters Tryz.prog 195:=fun _ _=>by kernel_rfl
theorem In:Enters Tryz.prog 196:=fun _ _=>by kernel_rfl
theorem Im:Enters Tryz.prog 197:=fun _ _=>by kernel_rfl
theorem Il:Enters Tryz.prog 198:=fun _ _=>by kernel_rfl
theorem Ik:Enters Tryz.prog 199:=fun _ _=>by kernel_rfl
theorem Ij:Enters Tryz.prog 200:=fun _ _=>by kernel_rfl
theorem Ii:Enters Tryz.prog 201:=fun _ _=>by kernel_rfl
theorem Ih:Enters Tryz.prog 202:=fun _ _=>by kernel_rfl
theorem Ig:Enters Tryz.prog 203:=fun _ _=>by kernel_rfl
theorem If:Enters Tryz.prog 204:=fun _ _=>by kernel_rfl
theorem Ie:Enters Tryz.prog 205:=fun _ _=>by kernel_rfl
theorem Id:Enters Tryz.prog 206:=fun _ _=>by kernel_rfl
theorem Ic:Enters Tryz.prog 207:=fun _ _=>by kernel_rfl
theorem Ib:Enters Tryz.prog 208:=fun _ _=>by kernel_rfl
theorem Ia:Enters Tryz.prog 209:=fun _ _=>by kernel_rfl
theorem HZ:Enters Tryz.prog 210:=fun _ _=>by kernel_rfl
theorem HY:Enters Tryz.prog 211:=fun _ _=>by kernel_rfl
theorem HX:Enters Tryz.prog 212:=fun _ _=>by kernel_rfl
theorem HW:Enters Tryz.prog 213:=fun _ _=>by kernel_rfl
theorem HV:Enters Tryz.prog 214:=fun _ _=>by kernel_rfl
theorem HU:Enters Tryz.prog 215:=fun _ _=>by kernel_rfl
theorem HT:Enters Tryz.prog 216:=fun _ _=>by kernel_rfl
theorem HS:Enters Tryz.prog 217:=fun _ _=>by kernel_rfl
theorem HR:Enters Tryz.prog 218:=fun _ _=>by kernel_rfl
theorem HQ:Enters Tryz.prog 219:=fun _ _=>by kernel_rfl
theorem HO:Enters Tryz.prog 220:=fun _ _=>by kernel_rfl
theorem HN:Enters Tryz.prog 221:=fun _ _=>by kernel_rfl
theorem HM:Enters Tryz.prog 222:=fun _ _=>by kernel_rfl
theorem HL:Enters Tryz.prog 223:=fun _ _=>by kernel_rfl
theorem HK:Enters Tryz.prog 224:=fun _ _=>by kernel_rfl
theorem HJ:Enters Tryz.prog 225:=fun _ _=>by kernel_rfl
theorem HI:Enters Tryz.prog 226:=fun _ _=>by kernel_rfl
theorem HH:Enters Tryz.prog 227:=fun _ _=>by kernel_rfl
theorem HG:Enters Tryz.prog 228:=fun _ _=>by kernel_rfl
theorem HF:Enters Tryz.prog 229:=fun _ _=>by kernel_rfl
theorem HE:Enters Tryz.prog 230:=fun _ _=>by kernel_rfl
theorem HD:Enters Tryz.prog 231:=fun _ _=>by kernel_rfl
theorem HC:Enters Tryz.prog 232:=fun _ _=>by kernel_rfl
theorem HB:Enters Tryz.prog 233:=fun _ _=>by kernel_rfl
theorem HA:Enters Tryz.prog 234:=fun _ _=>by kernel_rfl
theorem Hz:Enters Tryz.prog 235:=fun _ _=>by kernel_rfl
theorem Hy:Enters Tryz.prog 236:=fun _ _=>by kernel_rfl
theorem Hx:Enters Tryz.prog 237:=fun _ _=>by kernel_rfl
theorem Hw:Enters Tryz.prog 238:=fun _ _=>by kernel_rfl
theorem Hv:Enters Tryz.prog 239:=fun _ _=>by kernel_rfl
theorem Hu:Enters Tryz.prog 240:=fun _ _=>by kernel_rfl
theorem Ht:Enters Tryz.prog 241:=fun _ _=>by kernel_rfl
theorem Hs:Enters Tryz.prog 242:=fun _ _=>by kernel_rfl
theorem Hr:Enters Tryz.prog 243:=fun _ _=>by kernel_rfl
theorem Hq:Enters Tryz.prog 244:=fun _ _=>by kernel_rfl
theorem Ho:Enters Tryz.prog 245:=fun _ _=>by kernel_rfl
theorem mN:Enters Tryz.prog 249:=fun _ _=>by kernel_rfl
theorem Hn:Enters Tryz.prog 250:=fun _ _=>by kernel_rfl
theorem Hm:Enters Tryz.prog 251:=fun _ _=>by kernel_rfl
theorem Hl:Enters Tryz.prog 252:=fun _ _=>by kernel_rfl
theorem Hk:Enters Tryz.prog 253:=fun _ _=>by kernel_rfl
theorem Hj:Enters Tryz.prog 254:=fun _ _=>by kernel_rfl
theorem Hi:Enters Tryz.prog 255:=fun _ _=>by kernel_rfl
theorem Hh:Enters Tryz.prog 256:=fun _ _=>by kernel_rfl
theorem Hg:Enters Tryz.prog 262:=fun _ _=>by kernel_rfl
theorem Hf:Enters Tryz.prog 263:=fun _ _=>by kernel_rfl
theorem He:Enters Tryz.prog 270:=fun _ _=>by kernel_rfl
theorem Hc:Enters Tryz.prog 273:=fun _ _=>by kernel_rfl
theorem Hb:Enters Tryz.prog 274:=fun _ _=>by kernel_rfl
theorem Ha:Enters Tryz.prog 275:=fun _ _=>by kernel_rfl
theorem GZ:Enters Tryz.prog 276:=fun _ _=>by kernel_rfl
theorem GY:Enters Tryz.prog 277:=fun _ _=>by kernel_rfl
theorem GX:Enters Tryz.prog 278:=fun _ _=>by kernel_rfl
theorem GW:Enters Tryz.prog 279:=fun _ _=>by kernel_rfl
theorem GV:Enters Tryz.prog 280:=fun _ _=>by kernel_rfl
theorem GU:Enters Tryz.prog 281:=fun _ _=>by kernel_rfl
theorem GT:Enters Tryz.prog 287:=fun _ _=>by kernel_rfl
theorem GS:Enters Tryz.prog 288:=fun _ _=>by kernel_rfl
theorem GQ:Enters Tryz.prog 289:=fun _ _=>by kernel_rfl
theorem GN:Enters Tryz.prog 290:=fun _ _=>by kernel_rfl
theorem GM:Enters Tryz.prog 291:=fun _ _=>by kernel_rfl
theorem GL:Enters Tryz.prog 293:=fun _ _=>by kernel_rfl
theorem GK:Enters Tryz.prog 294:=fun _ _=>by kernel_rfl
theorem GJ:Enters Tryz.prog 296:=fun _ _=>by kernel_rfl
theorem kZ:Enters Tryz.prog 299:=fun _ _=>by kernel_rfl
theorem GI:Enters Tryz.prog 300:=fun _ _=>by kernel_rfl
theorem GH:Enters Tryz.prog 302:=fun _ _=>by kernel_rfl
theorem GG:Enters Tryz.prog 303:=fun _ _=>by kernel_rfl
theorem GD:Enters Tryz.prog 308:=fun _ _=>by kernel_rfl
theorem tR:Enters Tryz.prog 310:=fun _ _=>by kernel_rfl
theorem GC:Enters Tryz.prog 313:=fun _ _=>by kernel_rfl
theorem Bf:Enters Tryz.prog 316:=fun _ _=>by kernel_rfl
theorem GA:Enters Tryz.prog 322:=fun _ _=>by kernel_rfl
theorem Gz:Enters Tryz.prog 323:=fun _ _=>by kernel_rfl
theorem Gy:Enters Tryz.prog 324:=fun _ _=>by kernel_rfl
theorem Gx:Enters Tryz.prog 325:=fun _ _=>by kernel_rfl
theorem Ex:Enters Tryz.prog 326:=fun _ _=>by kernel_rfl
theorem Gw:Enters Tryz.prog 327:=fun _ _=>by kernel_rfl
theorem Gv:Enters Tryz.prog 328:=fun _ _=>by kernel_rfl
theorem il:Enters Tryz.prog 330:=fun _ _=>by kernel_rfl
theorem Gu:Enters Tryz.prog 331:=fun _ _=>by kernel_rfl
theorem Gt:Enters Tryz.prog 332:=fun _ _=>by kernel_rfl
theorem Gs:Enters Tryz.prog 333:=fun _ _=>by kernel_rfl
theorem Gr:Enters Tryz.prog 337:=fun _ _=>by kernel_rfl
theorem Gq:Enters Tryz.prog 338:=fun _ _=>by kernel_rfl
theorem Gp:Enters Tryz.prog 339:=fun _ _=>by kernel_rfl
theorem Go:Enters Tryz.prog 349:=fun _ _=>by kernel_rfl
theorem Gn:Enters Tryz.prog 350:=fun _ _=>by kernel_rfl
theorem Gm:Enters Tryz.prog 351:=fun _ _=>by kernel_rfl
theorem Ew:Enters Tryz.prog 352:=fun _ _=>by kernel_rfl
theorem Gl:Enters Tryz.prog 353:=fun _ _=>by kernel_rfl
theorem tQ:Enters Tryz.prog 354:=fun _ _=>by kernel_rfl
theorem Gk:Enters Tryz.prog 361:=fun _ _=>by kernel_rfl
theorem Gj:Enters Tryz.prog 362:=fun _ _=>by kernel_rfl
theorem Gi:Enters Tryz.prog 363:=fun _ _=>by kernel_rfl
theorem tP:Enters Tryz.prog 364:=fun _ _=>by kernel_rfl
theorem Eu:Enters Tryz.prog 365:=fun _ _=>by kernel_rfl
theorem Gh:Enters Tryz.prog 368:=fun _ _=>by kernel_rfl
theorem mixed:Tryz.prog.follows .mixedOrders=true:=by kernel_rfl
end Go.Proofs.YtfmgkkofledkbaaGreatDoor
