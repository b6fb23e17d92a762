/- Facts on the tables of the types of this program, each computed by the kernel. -/
import Derived.Test.YtommnllbflbdmaaGreatDoorLae
import Derived.Test.YtommnllbflbdmaaGreatDoorProg
import Derived.KernelRfl
set_option linter.all false
namespace Go.Proofs.YtommnllbflbdmaaGreatDoor
open Go.V
noncomputable abbrev ah:=Tryz.prog
instance:TyOne ah 3:=⟨fun _=>by kernel_rfl,by kernel_rfl⟩
instance:TyInt ah 3 .i64:=⟨by kernel_rfl⟩
instance:ZeroT ah 3 [ab 0]:=⟨by kernel_rfl⟩
instance:TyOne ah 4:=⟨fun _=>by kernel_rfl,by kernel_rfl⟩
instance:TyOne ah 5:=⟨fun _=>by kernel_rfl,by kernel_rfl⟩
instance:TyInt ah 5 .u8:=⟨by kernel_rfl⟩
instance:TyOne ah 9:=⟨fun _=>by kernel_rfl,by kernel_rfl⟩
instance:TyStr ah 9:=⟨by kernel_rfl⟩
instance:TyOne ah 22:=⟨fun _=>by kernel_rfl,by kernel_rfl⟩
instance:TySl ah 22 3 1 8 [ab 0]:=⟨by kernel_rfl,by kernel_rfl,by decide,by decide⟩
instance:ZeroT ah 22 [.slice none 0 0]:=⟨by kernel_rfl⟩
instance:TyOne ah 26:=⟨fun _=>by kernel_rfl,by kernel_rfl⟩
instance:TySl ah 26 65 7 72 [ab 0,ab 0,ab 0,ab 0,ab 0,ab 0,.slice none 0 0]:=⟨by kernel_rfl,by kernel_rfl,by decide,by decide⟩
instance:TyOne ah 28:=⟨fun _=>by kernel_rfl,by kernel_rfl⟩
instance:TySl ah 28 147 7 48 [.string ⟨#[]⟩,.bool false,.bool false,.bool false,ab 0,ab 0,ab 0]:=⟨by kernel_rfl,by kernel_rfl,by decide,by decide⟩
instance:TyOne ah 29:=⟨fun _=>by kernel_rfl,by kernel_rfl⟩
instance:TySl ah 29 79 9 128 [.string ⟨#[]⟩,.bool false,ab 0,ab 0,ab 0,ab 0,.slice none 0 0,.slice none 0 0,.slice none 0 0]:=⟨by kernel_rfl,by kernel_rfl,by decide,by decide⟩
instance:TyOne ah 30:=⟨fun _=>by kernel_rfl,by kernel_rfl⟩
instance:TySl ah 30 153 2 40 [.string ⟨#[]⟩,.slice none 0 0]:=⟨by kernel_rfl,by kernel_rfl,by decide,by decide⟩
instance:TyOne ah 31:=⟨fun _=>by kernel_rfl,by kernel_rfl⟩
instance:TySl ah 31 160 2 40 [.string ⟨#[]⟩,.slice none 0 0]:=⟨by kernel_rfl,by kernel_rfl,by decide,by decide⟩
instance:TyAgg ah 33 4:=⟨fun _=>by kernel_rfl,by kernel_rfl⟩
instance:Fld ah 33 0 0:=Fld.of 0 ap
instance:Fld ah 33 1 1:=Fld.of 0 ap
instance:Fld ah 33 2 2:=Fld.of 0 ap
instance:Fld ah 33 3 3:=Fld.of 0 ap
instance:TyStruct ah 33 [(0,1),(1,1),(2,1),(3,1)]:=⟨by kernel_rfl⟩
instance:ZeroT ah 33 [.slice none 0 0,.slice none 0 0,.slice none 0 0,.slice none 0 0]:=⟨by kernel_rfl⟩
instance:TyOne ah 34:=⟨fun _=>by kernel_rfl,by kernel_rfl⟩
instance:TySl ah 34 186 3 40 [ab 0,ab 0,.slice none 0 0]:=⟨by kernel_rfl,by kernel_rfl,by decide,by decide⟩
instance:TyOne ah 35:=⟨fun _=>by kernel_rfl,by kernel_rfl⟩
instance:TySl ah 35 89 11 120 [ab 0,ab 0,ab 0,ab 0,ab 0,ab 0,ab 0,ab 0,ab 0,.slice none 0 0,.slice none 0 0]:=⟨by kernel_rfl,by kernel_rfl,by decide,by decide⟩
instance:Fld ah 37 0 0:=Fld.of 0 ap
instance:Fld ah 37 1 1:=Fld.of 3 ap
instance:Fld ah 37 2 5:=Fld.of 0 ap
instance:Fld ah 37 3 6:=Fld.of 0 ap
instance:Fld ah 37 4 7:=Fld.of 0 ap
instance:TyStruct ah 37 [(0,1),(1,4),(5,1),(6,1),(7,1)]:=⟨by kernel_rfl⟩
instance:ZeroT ah 37 [ab 0,.slice none 0 0,.slice none 0 0,.slice none 0 0,.slice none 0 0,.slice none 0 0,.slice none 0 0,.slice none 0 0]:=⟨by kernel_rfl⟩
instance:TySl ah 40 26 1 24 [.slice none 0 0]:=⟨by kernel_rfl,by kernel_rfl,by decide,by decide⟩
instance:TySl ah 41 35 1 24 [.slice none 0 0]:=⟨by kernel_rfl,by kernel_rfl,by decide,by decide⟩
instance:TyOne ah 42:=⟨fun _=>by kernel_rfl,by kernel_rfl⟩
instance:ZeroT ah 42 [ab 0]:=⟨by kernel_rfl⟩
instance:TyAgg ah 44 3:=⟨fun _=>by kernel_rfl,by kernel_rfl⟩
instance:TyStruct ah 44 [(0,1),(1,1),(2,1)]:=⟨by kernel_rfl⟩
instance:ZeroT ah 44 [ab 0,ab 0,ab 0]:=⟨by kernel_rfl⟩
instance:TyAgg ah 46 3:=⟨fun _=>by kernel_rfl,by kernel_rfl⟩
instance:Fld ah 46 0 0:=Fld.of 0 ap
instance:Fld ah 46 1 1:=Fld.of 0 ap
instance:Fld ah 46 2 2:=Fld.of 0 ap
instance:TyStruct ah 46 [(0,1),(1,1),(2,1)]:=⟨by kernel_rfl⟩
instance:ZeroT ah 46 [ab 0,ab 0,ab 0]:=⟨by kernel_rfl⟩
instance:TySl ah 53 112 3 24 [ab 0,ab 0,ab 0]:=⟨by kernel_rfl,by kernel_rfl,by decide,by decide⟩
instance:TyOne ah 58:=⟨fun _=>by kernel_rfl,by kernel_rfl⟩
instance:TyPtr ah 58:=⟨⟨126,by kernel_rfl⟩⟩
instance:TyOne ah 63:=⟨fun _=>by kernel_rfl,by kernel_rfl⟩
instance:TySl ah 63 74 5 56 [ab 0,ab 0,ab 0,ab 0,.slice none 0 0]:=⟨by kernel_rfl,by kernel_rfl,by decide,by decide⟩
instance:TyAgg ah 65 7:=⟨fun _=>by kernel_rfl,by kernel_rfl⟩
instance:Fld ah 65 0 0:=Fld.of 0 ap
instance:Fld ah 65 1 1:=Fld.of 0 ap
instance:Fld ah 65 2 2:=Fld.of 0 ap
instance:Fld ah 65 3 3:=Fld.of 0 ap
instance:Fld ah 65 4 4:=Fld.of 0 ap
instance:Fld ah 65 5 5:=Fld.of 0 ap
instance:Fld ah 65 6 6:=Fld.of 0 ap
instance:TyStruct ah 65 [(0,1),(1,1),(2,1),(3,1),(4,1),(5,1),(6,1)]:=⟨by kernel_rfl⟩
instance:ZeroT ah 65 [ab 0,ab 0,ab 0,ab 0,ab 0,ab 0,.slice none 0 0]:=⟨by kernel_rfl⟩
instance:TyOne ah 68:=⟨fun _=>by kernel_rfl,by kernel_rfl⟩
instance:TyOne ah 72:=⟨fun _=>by kernel_rfl,by kernel_rfl⟩
instance:TySl ah 72 91 3 24 [ab 0,ab 0,ab 0]:=⟨by kernel_rfl,by kernel_rfl,by decide,by decide⟩
instance:ZeroT ah 72 [.slice none 0 0]:=⟨by kernel_rfl⟩
instance:TyAgg ah 74 5:=⟨fun _=>by kernel_rfl,by kernel_rfl⟩
instance:Fld ah 74 0 0:=Fld.of 0 ap
instance:Fld ah 74 1 1:=Fld.of 0 ap
instance:Fld ah 74 2 2:=Fld.of 0 ap
instance:Fld ah 74 3 3:=Fld.of 0 ap
instance:Fld ah 74 4 4:=Fld.of 0 ap
instance:TyStruct ah 74 [(0,1),(1,1),(2,1),(3,1),(4,1)]:=⟨by kernel_rfl⟩
instance:ZeroT ah 74 [ab 0,ab 0,ab 0,ab 0,.slice none 0 0]:=⟨by kernel_rfl⟩
instance:TyOne ah 77:=⟨fun _=>by kernel_rfl,by kernel_rfl⟩
instance:TySl ah 77 81 2 16 [ab 0,ab 0]:=⟨by kernel_rfl,by kernel_rfl,by decide,by decide⟩
instance:TyAgg ah 79 9:=⟨fun _=>by kernel_rfl,by kernel_rfl⟩
instance:Fld ah 79 0 0:=Fld.of 0 ap
instance:Fld ah 79 1 1:=Fld.of 0 ap
instance:Fld ah 79 2 2:=Fld.of 0 ap
instance:Fld ah 79 3 3:=Fld.of 0 ap
instance:Fld ah 79 4 4:=Fld.of 0 ap
instance:Fld ah 79 5 5:=Fld.of 0 ap
instance:Fld ah 79 6 6:=Fld.of 0 ap
instance:Fld ah 79 7 7:=Fld.of 0 ap
instance:Fld ah 79 8 8:=Fld.of 0 ap
instance:TyStruct ah 79 [(0,1),(1,1),(2,1),(3,1),(4,1),(5,1),(6,1),(7,1),(8,1)]:=⟨by kernel_rfl⟩
instance:ZeroT ah 79 [.string ⟨#[]⟩,.bool false,ab 0,ab 0,ab 0,ab 0,.slice none 0 0,.slice none 0 0,.slice none 0 0]:=⟨by kernel_rfl⟩
instance:TyAgg ah 81 2:=⟨fun _=>by kernel_rfl,by kernel_rfl⟩
instance:Fld ah 81 0 0:=Fld.of 0 ap
instance:Fld ah 81 1 1:=Fld.of 0 ap
instance:TyStruct ah 81 [(0,1),(1,1)]:=⟨by kernel_rfl⟩
instance:ZeroT ah 81 [ab 0,ab 0]:=⟨by kernel_rfl⟩
instance:TyAgg ah 89 11:=⟨fun _=>by kernel_rfl,by kernel_rfl⟩
instance:Fld ah 89 0 0:=Fld.of 0 ap
instance:Fld ah 89 1 1:=Fld.of 0 ap
instance:Fld ah 89 2 2:=Fld.of 0 ap
instance:Fld ah 89 3 3:=Fld.of 0 ap
instance:Fld ah 89 4 4:=Fld.of 0 ap
instance:Fld ah 89 5 5:=Fld.of 0 ap
instance:Fld ah 89 6 6:=Fld.of 0 ap
instance:Fld ah 89 7 7:=Fld.of 0 ap
instance:Fld ah 89 8 8:=Fld.of 0 ap
instance:Fld ah 89 9 9:=Fld.of 0 ap
instance:Fld ah 89 10 10:=Fld.of 0 ap
instance:TyStruct ah 89 [(0,1),(1,1),(2,1),(3,1),(4,1),(5,1),(6,1),(7,1),(8,1),(9,1),(10,1)]:=⟨by kernel_rfl⟩
instance:ZeroT ah 89 [ab 0,ab 0,ab 0,ab 0,ab 0,ab 0,ab 0,ab 0,ab 0,.slice none 0 0,.slice none 0 0]:=⟨by kernel_rfl⟩
instance:TyAgg ah 91 3:=⟨fun _=>by kernel_rfl,by kernel_rfl⟩
instance:Fld ah 91 0 0:=Fld.of 0 ap
instance:Fld ah 91 1 1:=Fld.of 0 ap
instance:Fld ah 91 2 2:=Fld.of 0 ap
instance:TyStruct ah 91 [(0,1),(1,1),(2,1)]:=⟨by kernel_rfl⟩
instance:ZeroT ah 91 [ab 0,ab 0,ab 0]:=⟨by kernel_rfl⟩
instance:TyInt ah 100 .u64:=⟨by kernel_rfl⟩
instance:TyOne ah 101:=⟨fun _=>by kernel_rfl,by kernel_rfl⟩
instance:TyOne ah 102:=⟨fun _=>by kernel_rfl,by kernel_rfl⟩
instance:TyOne ah 103:=⟨fun _=>by kernel_rfl,by kernel_rfl⟩
instance:Fld ah 105 0 0:=Fld.of 0 ap
instance:Fld ah 105 1 1:=Fld.of 3 ap
instance:Fld ah 105 2 5:=Fld.of 0 ap
instance:Fld ah 105 3 6:=Fld.of 0 ap
instance:Fld ah 105 4 7:=Fld.of 0 ap
instance:Fld ah 105 5 8:=Fld.of 0 ap
instance:Fld ah 105 6 9:=Fld.of 0 ap
instance:Fld ah 105 7 10:=Fld.of 0 ap
instance:Fld ah 105 8 11:=Fld.of 0 ap
instance:TyStruct ah 105 [(0,1),(1,4),(5,1),(6,1),(7,1),(8,1),(9,1),(10,1),(11,1)]:=⟨by kernel_rfl⟩
instance:ZeroT ah 105 [ab 0,.slice none 0 0,.slice none 0 0,.slice none 0 0,.slice none 0 0,ab 0,ab 0,.map none,.map none,.slice none 0 0,.map none,.map none]:=⟨by kernel_rfl⟩
instance:Fld ah 112 0 0:=Fld.of 0 ap
instance:Fld ah 112 1 1:=Fld.of 0 ap
instance:Fld ah 112 2 2:=Fld.of 0 ap
instance:TyStruct ah 112 [(0,1),(1,1),(2,1)]:=⟨by kernel_rfl⟩
instance:ZeroT ah 112 [ab 0,ab 0,ab 0]:=⟨by kernel_rfl⟩
instance:TyOne ah 115:=⟨fun _=>by kernel_rfl,by kernel_rfl⟩
instance:ZeroT ah 115 [.map none]:=⟨by kernel_rfl⟩
instance:TyAgg ah 116 2:=⟨fun _=>by kernel_rfl,by kernel_rfl⟩
instance:ZeroT ah 116 [ab 0,ab 0]:=⟨by kernel_rfl⟩
instance:TyOne ah 124:=⟨fun _=>by kernel_rfl,by kernel_rfl⟩
instance:Fld ah 126 0 0:=Fld.of 0 ap
instance:Fld ah 126 1 1:=Fld.of 3 ap
instance:Fld ah 126 2 5:=Fld.of 0 ap
instance:Fld ah 126 3 6:=Fld.of 0 ap
instance:Fld ah 126 4 7:=Fld.of 0 ap
instance:Fld ah 126 5 8:=Fld.of 0 ap
instance:Fld ah 126 6 9:=Fld.of 0 ap
instance:Fld ah 126 7 10:=Fld.of 0 ap
instance:TyStruct ah 126 [(0,1),(1,4),(5,1),(6,1),(7,1),(8,1),(9,1),(10,1)]:=⟨by kernel_rfl⟩
instance:ZeroT ah 126 [ab 0,.slice none 0 0,.slice none 0 0,.slice none 0 0,.slice none 0 0,.map none,.map none,.slice none 0 0,.slice none 0 0,.map none,.map none]:=⟨by kernel_rfl⟩
instance:Fld ah 131 0 0:=Fld.of 0 ap
instance:Fld ah 131 1 1:=Fld.of 6 ap
instance:Fld ah 131 2 8:=Fld.of 0 ap
instance:Fld ah 131 3 9:=Fld.of 0 ap
instance:Fld ah 131 4 10:=Fld.of 0 ap
instance:Fld ah 131 5 11:=Fld.of 0 ap
instance:Fld ah 131 6 12:=Fld.of 0 ap
instance:Fld ah 131 7 13:=Fld.of 0 ap
instance:TyStruct ah 131 [(0,1),(1,7),(8,1),(9,1),(10,1),(11,1),(12,1),(13,1)]:=⟨by kernel_rfl⟩
instance:ZeroT ah 131 [.pointer none,ab 0,ab 0,ab 0,ab 0,ab 0,ab 0,.slice none 0 0,.map none,.map none,.map none,.map none,.slice none 0 0,.slice none 0 0]:=⟨by kernel_rfl⟩
instance:TyAgg ah 133 2:=⟨fun _=>by kernel_rfl,by kernel_rfl⟩
instance:TyStruct ah 133 [(0,1),(1,1)]:=⟨by kernel_rfl⟩
instance:ZeroT ah 133 [ab 0,ab 0]:=⟨by kernel_rfl⟩
instance:TyOne ah 144:=⟨fun _=>by kernel_rfl,by kernel_rfl⟩
instance:TySl ah 144 9 1 16 [.string ⟨#[]⟩]:=⟨by kernel_rfl,by kernel_rfl,by decide,by decide⟩
instance:TyAgg ah 147 7:=⟨fun _=>by kernel_rfl,by kernel_rfl⟩
instance:Fld ah 147 0 0:=Fld.of 0 ap
instance:Fld ah 147 1 1:=Fld.of 0 ap
instance:Fld ah 147 2 2:=Fld.of 0 ap
instance:Fld ah 147 3 3:=Fld.of 0 ap
instance:Fld ah 147 4 4:=Fld.of 0 ap
instance:Fld ah 147 5 5:=Fld.of 0 ap
instance:Fld ah 147 6 6:=Fld.of 0 ap
instance:TyStruct ah 147 [(0,1),(1,1),(2,1),(3,1),(4,1),(5,1),(6,1)]:=⟨by kernel_rfl⟩
instance:ZeroT ah 147 [.string ⟨#[]⟩,.bool false,.bool false,.bool false,ab 0,ab 0,ab 0]:=⟨by kernel_rfl⟩
instance:TyOne ah 151:=⟨fun _=>by kernel_rfl,by kernel_rfl⟩
instance:TySl ah 151 155 2 32 [ab 0,.slice none 0 0]:=⟨by kernel_rfl,by kernel_rfl,by decide,by decide⟩
instance:TyAgg ah 153 2:=⟨fun _=>by kernel_rfl,by kernel_rfl⟩
instance:Fld ah 153 0 0:=Fld.of 0 ap
instance:Fld ah 153 1 1:=Fld.of 0 ap
instance:TyStruct ah 153 [(0,1),(1,1)]:=⟨by kernel_rfl⟩
instance:ZeroT ah 153 [.string ⟨#[]⟩,.slice none 0 0]:=⟨by kernel_rfl⟩
instance:TyAgg ah 155 2:=⟨fun _=>by kernel_rfl,by kernel_rfl⟩
instance:Fld ah 155 0 0:=Fld.of 0 ap
instance:Fld ah 155 1 1:=Fld.of 0 ap
instance:TyStruct ah 155 [(0,1),(1,1)]:=⟨by kernel_rfl⟩
instance:ZeroT ah 155 [ab 0,.slice none 0 0]:=⟨by kernel_rfl⟩
instance:TyAgg ah 157 2:=⟨fun _=>by kernel_rfl,by kernel_rfl⟩
instance:Fld ah 157 0 0:=Fld.of 0 ap
instance:Fld ah 157 1 1:=Fld.of 0 ap
instance:TyStruct ah 157 [(0,1),(1,1)]:=⟨by kernel_rfl⟩
instance:ZeroT ah 157 [ab 0,ab 0]:=⟨by kernel_rfl⟩
instance:TyOne ah 158:=⟨fun _=>by kernel_rfl,by kernel_rfl⟩
instance:TySl ah 158 157 2 16 [ab 0,ab 0]:=⟨by kernel_rfl,by kernel_rfl,by decide,by decide⟩
instance:TyAgg ah 160 2:=⟨fun _=>by kernel_rfl,by kernel_rfl⟩
instance:Fld ah 160 0 0:=Fld.of 0 ap
instance:Fld ah 160 1 1:=Fld.of 0 ap
instance:TyStruct ah 160 [(0,1),(1,1)]:=⟨by kernel_rfl⟩
instance:ZeroT ah 160 [.string ⟨#[]⟩,.slice none 0 0]:=⟨by kernel_rfl⟩
instance:TySl ah 166 144 1 24 [.slice none 0 0]:=⟨by kernel_rfl,by kernel_rfl,by decide,by decide⟩
instance:TySl ah 175 77 1 24 [.slice none 0 0]:=⟨by kernel_rfl,by kernel_rfl,by decide,by decide⟩
instance:TySl ah 177 4 1 1 [.bool false]:=⟨by kernel_rfl,by kernel_rfl,by decide,by decide⟩
instance:TySl ah 178 42 1 8 [ab 0]:=⟨by kernel_rfl,by kernel_rfl,by decide,by decide⟩
instance:TyAgg ah 186 3:=⟨fun _=>by kernel_rfl,by kernel_rfl⟩
instance:Fld ah 186 0 0:=Fld.of 0 ap
instance:Fld ah 186 1 1:=Fld.of 0 ap
instance:Fld ah 186 2 2:=Fld.of 0 ap
instance:TyStruct ah 186 [(0,1),(1,1),(2,1)]:=⟨by kernel_rfl⟩
instance:ZeroT ah 186 [ab 0,ab 0,.slice none 0 0]:=⟨by kernel_rfl⟩
instance:TyOne ah 195:=⟨fun _=>by kernel_rfl,by kernel_rfl⟩
instance:TySl ah 210 214 4 40 [ab 0,.string ⟨#[]⟩,ab 0,ab 0]:=⟨by kernel_rfl,by kernel_rfl,by decide,by decide⟩
instance:TyAgg ah 214 4:=⟨fun _=>by kernel_rfl,by kernel_rfl⟩
instance:Fld ah 214 0 0:=Fld.of 0 ap
instance:Fld ah 214 1 1:=Fld.of 0 ap
instance:Fld ah 214 2 2:=Fld.of 0 ap
instance:TyStruct ah 214 [(0,1),(1,1),(2,1),(3,1)]:=⟨by kernel_rfl⟩
instance:ZeroT ah 214 [ab 0,.string ⟨#[]⟩,ab 0,ab 0]:=⟨by kernel_rfl⟩
instance:TyOne ah 238:=⟨fun _=>by kernel_rfl,by kernel_rfl⟩
instance:TyInt ah 238 .u64:=⟨by kernel_rfl⟩
instance:TyOne ah 255:=⟨fun _=>by kernel_rfl,by kernel_rfl⟩
instance:ZeroT ah 255 [.nilFunc]:=⟨by kernel_rfl⟩
instance:TyOne ah 265:=⟨fun _=>by kernel_rfl,by kernel_rfl⟩
instance:TyAgg ah 267 4:=⟨fun _=>by kernel_rfl,by kernel_rfl⟩
instance:Fld ah 267 0 0:=Fld.of 0 ap
instance:Fld ah 267 1 1:=Fld.of 0 ap
instance:Fld ah 267 2 2:=Fld.of 0 ap
instance:Fld ah 267 3 3:=Fld.of 0 ap
instance:TyStruct ah 267 [(0,1),(1,1),(2,1),(3,1)]:=⟨by kernel_rfl⟩
instance:ZeroT ah 267 [.nilFunc,.nilFunc,.bool false,.nilFunc]:=⟨by kernel_rfl⟩
instance:TySl ah 285 290 2 16 [ab 0,.int .u64 0]:=⟨by kernel_rfl,by kernel_rfl,by decide,by decide⟩
instance:TyAgg ah 290 2:=⟨fun _=>by kernel_rfl,by kernel_rfl⟩
instance:Fld ah 290 0 0:=Fld.of 0 ap
instance:Fld ah 290 1 1:=Fld.of 0 ap
instance:TyStruct ah 290 [(0,1),(1,1)]:=⟨by kernel_rfl⟩
instance:ZeroT ah 290 [ab 0,.int .u64 0]:=⟨by kernel_rfl⟩
instance:TyOne ah 300:=⟨fun _=>by kernel_rfl,by kernel_rfl⟩
instance:TySl ah 300 303 4 40 [ab 0,.string ⟨#[]⟩,ab 0,ab 0]:=⟨by kernel_rfl,by kernel_rfl,by decide,by decide⟩
instance:ZeroT ah 300 [.slice none 0 0]:=⟨by kernel_rfl⟩
instance:TyAgg ah 303 4:=⟨fun _=>by kernel_rfl,by kernel_rfl⟩
instance:Fld ah 303 0 0:=Fld.of 0 ap
instance:Fld ah 303 1 1:=Fld.of 0 ap
instance:TyStruct ah 303 [(0,1),(1,1),(2,1),(3,1)]:=⟨by kernel_rfl⟩
instance:ZeroT ah 303 [ab 0,.string ⟨#[]⟩,ab 0,ab 0]:=⟨by kernel_rfl⟩
instance:TyOne ah 352:=⟨fun _=>by kernel_rfl,by kernel_rfl⟩
instance:TySl ah 352 238 1 8 [.int .u64 0]:=⟨by kernel_rfl,by kernel_rfl,by decide,by decide⟩
instance:ZeroT ah 352 [.slice none 0 0]:=⟨by kernel_rfl⟩
theorem en3:Enters ah 3:=fun _ _=>by kernel_rfl
theorem en9:Enters ah 9:=fun _ _=>by kernel_rfl
theorem en10:Enters ah 10:=fun _ _=>by kernel_rfl
theorem en11:Enters ah 11:=fun _ _=>by kernel_rfl
theorem en12:Enters ah 12:=fun _ _=>by kernel_rfl
theorem en13:Enters ah 13:=fun _ _=>by kernel_rfl
theorem en14:Enters ah 14:=fun _ _=>by kernel_rfl
theorem en15:Enters ah 15:=fun _ _=>by kernel_rfl
theorem en16:Enters ah 16:=fun _ _=>by kernel_rfl
theorem en17:Enters ah 17:=fun _ _=>by kernel_rfl
theorem en19:Enters ah 19:=fun _ _=>by kernel_rfl
theorem en23:Enters ah 23:=fun _ _=>by kernel_rfl
theorem en24:Enters ah 24:=fun _ _=>by kernel_rfl
theorem en25:Enters ah 25:=fun _ _=>by kernel_rfl
theorem en26:Enters ah 26:=fun _ _=>by kernel_rfl
theorem en32:Enters ah 32:=fun _ _=>by kernel_rfl
theorem en34:Enters ah 34:=fun _ _=>by kernel_rfl
theorem en36:Enters ah 36:=fun _ _=>by kernel_rfl
theorem en37:Enters ah 37:=fun _ _=>by kernel_rfl
theorem en38:Enters ah 38:=fun _ _=>by kernel_rfl
theorem en41:Enters ah 41:=fun _ _=>by kernel_rfl
theorem en42:Enters ah 42:=fun _ _=>by kernel_rfl
theorem en43:Enters ah 43:=fun _ _=>by kernel_rfl
theorem en44:Enters ah 44:=fun _ _=>by kernel_rfl
theorem en45:Enters ah 45:=fun _ _=>by kernel_rfl
theorem en46:Enters ah 46:=fun _ _=>by kernel_rfl
theorem en47:Enters ah 47:=fun _ _=>by kernel_rfl
theorem en48:Enters ah 48:=fun _ _=>by kernel_rfl
theorem en49:Enters ah 49:=fun _ _=>by kernel_rfl
theorem en50:Enters ah 50:=fun _ _=>by kernel_rfl
theorem en51:Enters ah 51:=fun _ _=>by kernel_rfl
theorem en52:Enters ah 52:=fun _ _=>by kernel_rfl
theorem en53:Enters ah 53:=fun _ _=>by kernel_rfl
theorem en55:Enters ah 55:=fun _ _=>by kernel_rfl
theorem en56:Enters ah 56:=fun _ _=>by kernel_rfl
theorem en57:Enters ah 57:=fun _ _=>by kernel_rfl
theorem en58:Enters ah 58:=fun _ _=>by kernel_rfl
theorem en59:Enters ah 59:=fun _ _=>by kernel_rfl
theorem en62:Enters ah 62:=fun _ _=>by kernel_rfl
theorem en63:Enters ah 63:=fun _ _=>by kernel_rfl
theorem en64:Enters ah 64:=fun _ _=>by kernel_rfl
theorem en65:Enters ah 65:=fun _ _=>by kernel_rfl
theorem en66:Enters ah 66:=fun _ _=>by kernel_rfl
theorem en67:Enters ah 67:=fun _ _=>by kernel_rfl
theorem en68:Enters ah 68:=fun _ _=>by kernel_rfl
theorem en69:Enters ah 69:=fun _ _=>by kernel_rfl
theorem en70:Enters ah 70:=fun _ _=>by kernel_rfl
theorem en71:Enters ah 71:=fun _ _=>by kernel_rfl
theorem en83:Enters ah 83:=fun _ _=>by kernel_rfl
theorem en84:Enters ah 84:=fun _ _=>by kernel_rfl
theorem en85:Enters ah 85:=fun _ _=>by kernel_rfl
theorem en86:Enters ah 86:=fun _ _=>by kernel_rfl
theorem en87:Enters ah 87:=fun _ _=>by kernel_rfl
theorem en88:Enters ah 88:=fun _ _=>by kernel_rfl
theorem en89:Enters ah 89:=fun _ _=>by kernel_rfl
theorem en90:Enters ah 90:=fun _ _=>by kernel_rfl
theorem en91:Enters ah 91:=fun _ _=>by kernel_rfl
theorem en92:Enters ah 92:=fun _ _=>by kernel_rfl
theorem en93:Enters ah 93:=fun _ _=>by kernel_rfl
theorem en94:Enters ah 94:=fun _ _=>by kernel_rfl
theorem en98:Enters ah 98:=fun _ _=>by kernel_rfl
theorem en99:Enters ah 99:=fun _ _=>by kernel_rfl
theorem Ko:Enters ah 100:=fun _ _=>by kernel_rfl
theorem Kn:Enters ah 101:=fun _ _=>by kernel_rfl
theorem Km:Enters ah 102:=fun _ _=>by kernel_rfl
theorem Kl:Enters ah 103:=fun _ _=>by kernel_rfl
theorem Kk:Enters ah 104:=fun _ _=>by kernel_rfl
theorem Kj:Enters ah 105:=fun _ _=>by kernel_rfl
theorem Ki:Enters ah 106:=fun _ _=>by kernel_rfl
theorem Kh:Enters ah 107:=fun _ _=>by kernel_rfl
theorem uW:Enters ah 110:=fun _ _=>by kernel_rfl
theorem Kg:Enters ah 111:=fun _ _=>by kernel_rfl
theorem Kf:Enters ah 112:=fun _ _=>by kernel_rfl
theorem Ke:Enters ah 113:=fun _ _=>by kernel_rfl
theorem Kd:Enters ah 114:=fun _ _=>by kernel_rfl
theorem Kc:Enters ah 115:=fun _ _=>by kernel_rfl
theorem Kb:Enters ah 116:=fun _ _=>by kernel_rfl
theorem Ka:Enters ah 117:=fun _ _=>by kernel_rfl
theorem JZ:Enters ah 118:=fun _ _=>by kernel_rfl
theorem JY:Enters ah 119:=fun _ _=>by kernel_rfl
theorem JX:Enters ah 120:=fun _ _=>by kernel_rfl
theorem JW:Enters ah 121:=fun _ _=>by kernel_rfl
theorem JV:Enters ah 122:=fun _ _=>by kernel_rfl
theorem JU:Enters ah 123:=fun _ _=>by kernel_rfl
theorem JT:Enters ah 124:=fun _ _=>by kernel_rfl
theorem Fi:Enters ah 125:=fun _ _=>by kernel_rfl
theorem JS:Enters ah 126:=fun _ _=>by kernel_rfl
theorem JR:Enters ah 127:=fun _ _=>by kernel_rfl
theorem JQ:Enters ah 130:=fun _ _=>by kernel_rfl
theorem JP:Enters ah 131:=fun _ _=>by kernel_rfl
theorem JO:Enters ah 132:=fun _ _=>by kernel_rfl
theorem JN:Enters ah 133:=fun _ _=>by kernel_rfl
theorem JM:Enters ah 134:=fun _ _=>by kernel_rfl
theorem Fh:Enters ah 135:=fun _ _=>by kernel_rfl
theorem JL:Enters ah 136:=fun _ _=>by kernel_rfl
theorem JK:Enters ah 137:=fun _ _=>by kernel_rfl
theorem JJ:Enters ah 138:=fun _ _=>by kernel_rfl
theorem JI:Enters ah 139:=fun _ _=>by kernel_rfl
theorem JH:Enters ah 140:=fun _ _=>by kernel_rfl
theorem JG:Enters ah 141:=fun _ _=>by kernel_rfl
theorem JF:Enters ah 142:=fun _ _=>by kernel_rfl
theorem JE:Enters ah 143:=fun _ _=>by kernel_rfl
theorem Fg:Enters ah 144:=fun _ _=>by kernel_rfl
theorem JD:Enters ah 145:=fun _ _=>by kernel_rfl
theorem JC:Enters ah 146:=fun _ _=>by kernel_rfl
theorem JB:Enters ah 147:=fun _ _=>by kernel_rfl
theorem JA:Enters ah 148:=fun _ _=>by kernel_rfl
theorem Jz:Enters ah 149:=fun _ _=>by kernel_rfl
theorem Jy:Enters ah 150:=fun _ _=>by kernel_rfl
theorem Jw:Enters ah 151:=fun _ _=>by kernel_rfl
theorem Jv:Enters ah 152:=fun _ _=>by kernel_rfl
theorem Ju:Enters ah 153:=fun _ _=>by kernel_rfl
theorem Jt:Enters ah 154:=fun _ _=>by kernel_rfl
theorem Js:Enters ah 155:=fun _ _=>by kernel_rfl
theorem Jr:Enters ah 156:=fun _ _=>by kernel_rfl
theorem Jq:Enters ah 157:=fun _ _=>by kernel_rfl
theorem Jp:Enters ah 167:=fun _ _=>by kernel_rfl
theorem Jo:Enters ah 168:=fun _ _=>by kernel_rfl
theorem Jn:Enters ah 169:=fun _ _=>by kernel_rfl
theorem Jm:Enters ah 170:=fun _ _=>by kernel_rfl
theorem Jl:Enters ah 171:=fun _ _=>by kernel_rfl
theorem Jk:Enters ah 172:=fun _ _=>by kernel_rfl
theorem Jj:Enters ah 173:=fun _ _=>by kernel_rfl
theorem Ji:Enters ah 174:=fun _ _=>by kernel_rfl
theorem Jh:Enters ah 175:=fun _ _=>by kernel_rfl
theorem Jg:Enters ah 176:=fun _ _=>by kernel_rfl
theorem Jf:Enters ah 177:=fun _ _=>by kernel_rfl
theorem Je:Enters ah 178:=fun _ _=>by kernel_rfl
theorem Jd:Enters ah 179:=fun _ _=>by kernel_rfl
theorem Jc:Enters ah 180:=fun _ _=>by kernel_rfl
theorem Jb:Enters ah 181:=fun _ _=>by kernel_rfl
theorem Ja:Enters ah 182:=fun _ _=>by kernel_rfl
theorem IZ:Enters ah 183:=fun _ _=>by kernel_rfl
theorem IY:Enters ah 184:=fun _ _=>by kernel_rfl
theorem IX:Enters ah 185:=fun _ _=>by kernel_rfl
theorem IW:Enters ah 186:=fun _ _=>by kernel_rfl
theorem IV:Enters ah 187:=fun _ _=>by kernel_rfl
theorem IU:Enters ah 188:=fun _ _=>by kernel_rfl
theorem IT:Enters ah 189:=fun _ _=>by kernel_rfl
theorem IS:Enters ah 190:=fun _ _=>by kernel_rfl
theorem IR:Enters ah 191:=fun _ _=>by kernel_rfl
theorem IQ:Enters ah 192:=fun _ _=>by kernel_rfl
theorem IP:Enters ah 193:=fun _ _=>by kernel_rfl
theorem IO:Enters ah 194:=fun _ _=>by kernel_rfl
theorem IN:Enters ah 195:=fun _ _=>by kernel_rfl
theorem IM:Enters ah 196:=fun _ _=>by kernel_rfl
theorem IL:Enters ah 197:=fun _ _=>by kernel_rfl
theorem IK:Enters ah 198:=fun _ _=>by kernel_rfl
theorem IJ:Enters ah 199:=fun _ _=>by kernel_rfl
theorem II:Enters ah 200:=fun _ _=>by kernel_rfl
theorem IH:Enters ah 201:=fun _ _=>by kernel_rfl
theorem IG:Enters ah 202:=fun _ _=>by kernel_rfl
theorem IF:Enters ah 203:=fun _ _=>by kernel_rfl
theorem IE:Enters ah 204:=fun _ _=>by kernel_rfl
theorem ID:Enters ah 205:=fun _ _=>by kernel_rfl
theorem IC:Enters ah 206:=fun _ _=>by kernel_rfl
theorem IB:Enters ah 207:=fun _ _=>by kernel_rfl
theorem IA:Enters ah 208:=fun _ _=>by kernel_rfl
theorem Iz:Enters ah 209:=fun _ _=>by kernel_rfl
theorem Iy:Enters ah 210:=fun _ _=>by kernel_rfl
theorem nZ:Enters ah 211:=fun _ _=>by kernel_rfl
theorem Ix:Enters ah 212:=fun _ _=>by kernel_rfl
theorem Iw:Enters ah 213:=fun _ _=>by kernel_rfl
theorem Iv:Enters ah 214:=fun _ _=>by kernel_rfl
theorem Iu:Enters ah 215:=fun _ _=>by kernel_rfl
theorem It:Enters ah 216:=fun _ _=>by kernel_rfl
theorem Is:Enters ah 217:=fun _ _=>by kernel_rfl
theorem Ir:Enters ah 218:=fun _ _=>by kernel_rfl
theorem Iq:Enters ah 219:=fun _ _=>by kernel_rfl
theorem Ip:Enters ah 220:=fun _ _=>by kernel_rfl
theorem Io:Enters ah 222:=fun _ _=>by kernel_rfl
theorem In:Enters ah 223:=fun _ _=>by kernel_rfl
theorem Im:Enters ah 224:=fun _ _=>by kernel_rfl
theorem Il:Enters ah 225:=fun _ _=>by kernel_rfl
theorem Ik:Enters ah 226:=fun _ _=>by kernel_rfl
theorem Ij:Enters ah 227:=fun _ _=>by kernel_rfl
theorem Ii:Enters ah 228:=fun _ _=>by kernel_rfl
theorem Ih:Enters ah 229:=fun _ _=>by kernel_rfl
theorem Ig:Enters ah 230:=fun _ _=>by kernel_rfl
theorem If:Enters ah 231:=fun _ _=>by kernel_rfl
theorem Ie:Enters ah 232:=fun _ _=>by kernel_rfl
theorem Ff:Enters ah 233:=fun _ _=>by kernel_rfl
theorem Id:Enters ah 234:=fun _ _=>by kernel_rfl
theorem Ic:Enters ah 235:=fun _ _=>by kernel_rfl
theorem Ib:Enters ah 236:=fun _ _=>by kernel_rfl
theorem Ia:Enters ah 237:=fun _ _=>by kernel_rfl
theorem HZ:Enters ah 238:=fun _ _=>by kernel_rfl
theorem HY:Enters ah 239:=fun _ _=>by kernel_rfl
theorem HX:Enters ah 240:=fun _ _=>by kernel_rfl
theorem HW:Enters ah 241:=fun _ _=>by kernel_rfl
theorem HV:Enters ah 242:=fun _ _=>by kernel_rfl
theorem HU:Enters ah 243:=fun _ _=>by kernel_rfl
theorem HT:Enters ah 244:=fun _ _=>by kernel_rfl
theorem HS:Enters ah 245:=fun _ _=>by kernel_rfl
theorem HR:Enters ah 251:=fun _ _=>by kernel_rfl
theorem HQ:Enters ah 252:=fun _ _=>by kernel_rfl
theorem HO:Enters ah 253:=fun _ _=>by kernel_rfl
theorem HN:Enters ah 254:=fun _ _=>by kernel_rfl
theorem HM:Enters ah 255:=fun _ _=>by kernel_rfl
theorem HL:Enters ah 256:=fun _ _=>by kernel_rfl
theorem HK:Enters ah 257:=fun _ _=>by kernel_rfl
theorem HJ:Enters ah 258:=fun _ _=>by kernel_rfl
theorem HI:Enters ah 259:=fun _ _=>by kernel_rfl
theorem HH:Enters ah 261:=fun _ _=>by kernel_rfl
theorem HG:Enters ah 262:=fun _ _=>by kernel_rfl
theorem HF:Enters ah 264:=fun _ _=>by kernel_rfl
theorem mI:Enters ah 267:=fun _ _=>by kernel_rfl
theorem HE:Enters ah 268:=fun _ _=>by kernel_rfl
theorem HD:Enters ah 269:=fun _ _=>by kernel_rfl
theorem HC:Enters ah 270:=fun _ _=>by kernel_rfl
theorem HB:Enters ah 271:=fun _ _=>by kernel_rfl
theorem HA:Enters ah 272:=fun _ _=>by kernel_rfl
theorem Hz:Enters ah 273:=fun _ _=>by kernel_rfl
theorem Hy:Enters ah 274:=fun _ _=>by kernel_rfl
theorem Fe:Enters ah 275:=fun _ _=>by kernel_rfl
theorem Hx:Enters ah 276:=fun _ _=>by kernel_rfl
theorem Hw:Enters ah 277:=fun _ _=>by kernel_rfl
theorem uV:Enters ah 278:=fun _ _=>by kernel_rfl
theorem uU:Enters ah 280:=fun _ _=>by kernel_rfl
theorem Hv:Enters ah 281:=fun _ _=>by kernel_rfl
theorem Hu:Enters ah 282:=fun _ _=>by kernel_rfl
theorem BJ:Enters ah 284:=fun _ _=>by kernel_rfl
theorem Ht:Enters ah 289:=fun _ _=>by kernel_rfl
theorem Hs:Enters ah 290:=fun _ _=>by kernel_rfl
theorem Hr:Enters ah 291:=fun _ _=>by kernel_rfl
theorem Fc:Enters ah 292:=fun _ _=>by kernel_rfl
theorem Hq:Enters ah 293:=fun _ _=>by kernel_rfl
theorem Fb:Enters ah 295:=fun _ _=>by kernel_rfl
theorem Ho:Enters ah 296:=fun _ _=>by kernel_rfl
theorem Hn:Enters ah 297:=fun _ _=>by kernel_rfl
theorem jU:Enters ah 299:=fun _ _=>by kernel_rfl
theorem Hm:Enters ah 300:=fun _ _=>by kernel_rfl
theorem Hl:Enters ah 301:=fun _ _=>by kernel_rfl
theorem Hk:Enters ah 302:=fun _ _=>by kernel_rfl
theorem Hj:Enters ah 306:=fun _ _=>by kernel_rfl
theorem Hi:Enters ah 307:=fun _ _=>by kernel_rfl
theorem Hh:Enters ah 308:=fun _ _=>by kernel_rfl
theorem Hg:Enters ah 310:=fun _ _=>by kernel_rfl
theorem Hf:Enters ah 320:=fun _ _=>by kernel_rfl
theorem He:Enters ah 321:=fun _ _=>by kernel_rfl
theorem Hc:Enters ah 322:=fun _ _=>by kernel_rfl
theorem Hb:Enters ah 323:=fun _ _=>by kernel_rfl
theorem Fa:Enters ah 324:=fun _ _=>by kernel_rfl
theorem uT:Enters ah 325:=fun _ _=>by kernel_rfl
theorem Ha:Enters ah 334:=fun _ _=>by kernel_rfl
theorem EZ:Enters ah 336:=fun _ _=>by kernel_rfl
theorem mixed:Tryz.prog.follows .mixedOrders=true:=by kernel_rfl
