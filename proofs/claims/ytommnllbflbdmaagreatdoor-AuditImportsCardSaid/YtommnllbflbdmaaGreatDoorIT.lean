/- Facts on the tables of the types of this program, each computed by the kernel. -/
import Derived.Test.YtommnllbflbdmaaGreatDoorIae
import Derived.Test.YtommnllbflbdmaaGreatDoorProg
import Derived.KernelRfl
set_option linter.all false
namespace Go.Proofs.YtommnllbflbdmaaGreatDoor
open Go.V
noncomputable abbrev ag:=Tryz.prog
instance:TyOne ag 3:=⟨fun _=>by kernel_rfl,by kernel_rfl⟩
instance:TyInt ag 3 .i64:=⟨by kernel_rfl⟩
instance:ZeroT ag 3 [ac 0]:=⟨by kernel_rfl⟩
instance:TyOne ag 4:=⟨fun _=>by kernel_rfl,by kernel_rfl⟩
instance:TyOne ag 5:=⟨fun _=>by kernel_rfl,by kernel_rfl⟩
instance:TyInt ag 5 .u8:=⟨by kernel_rfl⟩
instance:TyOne ag 9:=⟨fun _=>by kernel_rfl,by kernel_rfl⟩
instance:TyStr ag 9:=⟨by kernel_rfl⟩
instance:TyOne ag 22:=⟨fun _=>by kernel_rfl,by kernel_rfl⟩
instance:TySl ag 22 3 1 8 [ac 0]:=⟨by kernel_rfl,by kernel_rfl,by decide,by decide⟩
instance:ZeroT ag 22 [.slice none 0 0]:=⟨by kernel_rfl⟩
instance:TyOne ag 24:=⟨fun _=>by kernel_rfl,by kernel_rfl⟩
instance:TyOne ag 26:=⟨fun _=>by kernel_rfl,by kernel_rfl⟩
instance:TySl ag 26 65 7 72 [ac 0,ac 0,ac 0,ac 0,ac 0,ac 0,.slice none 0 0]:=⟨by kernel_rfl,by kernel_rfl,by decide,by decide⟩
instance:TyOne ag 28:=⟨fun _=>by kernel_rfl,by kernel_rfl⟩
instance:TySl ag 28 147 7 48 [.string ⟨#[]⟩,.bool false,.bool false,.bool false,ac 0,ac 0,ac 0]:=⟨by kernel_rfl,by kernel_rfl,by decide,by decide⟩
instance:TyOne ag 29:=⟨fun _=>by kernel_rfl,by kernel_rfl⟩
instance:TySl ag 29 79 9 128 [.string ⟨#[]⟩,.bool false,ac 0,ac 0,ac 0,ac 0,.slice none 0 0,.slice none 0 0,.slice none 0 0]:=⟨by kernel_rfl,by kernel_rfl,by decide,by decide⟩
instance:TyOne ag 30:=⟨fun _=>by kernel_rfl,by kernel_rfl⟩
instance:TySl ag 30 153 2 40 [.string ⟨#[]⟩,.slice none 0 0]:=⟨by kernel_rfl,by kernel_rfl,by decide,by decide⟩
instance:TyOne ag 31:=⟨fun _=>by kernel_rfl,by kernel_rfl⟩
instance:TySl ag 31 160 2 40 [.string ⟨#[]⟩,.slice none 0 0]:=⟨by kernel_rfl,by kernel_rfl,by decide,by decide⟩
instance:TyAgg ag 33 4:=⟨fun _=>by kernel_rfl,by kernel_rfl⟩
instance:Fld ag 33 0 0:=Fld.of 0 aw
instance:Fld ag 33 1 1:=Fld.of 0 aw
instance:Fld ag 33 2 2:=Fld.of 0 aw
instance:Fld ag 33 3 3:=Fld.of 0 aw
instance:TyStruct ag 33 [(0,1),(1,1),(2,1),(3,1)]:=⟨by kernel_rfl⟩
instance:ZeroT ag 33 [.slice none 0 0,.slice none 0 0,.slice none 0 0,.slice none 0 0]:=⟨by kernel_rfl⟩
instance:TyOne ag 34:=⟨fun _=>by kernel_rfl,by kernel_rfl⟩
instance:TySl ag 34 186 3 40 [ac 0,ac 0,.slice none 0 0]:=⟨by kernel_rfl,by kernel_rfl,by decide,by decide⟩
instance:TyOne ag 35:=⟨fun _=>by kernel_rfl,by kernel_rfl⟩
instance:TySl ag 35 89 11 120 [ac 0,ac 0,ac 0,ac 0,ac 0,ac 0,ac 0,ac 0,ac 0,.slice none 0 0,.slice none 0 0]:=⟨by kernel_rfl,by kernel_rfl,by decide,by decide⟩
instance:Fld ag 37 0 0:=Fld.of 0 aw
instance:Fld ag 37 1 1:=Fld.of 3 aw
instance:Fld ag 37 2 5:=Fld.of 0 aw
instance:Fld ag 37 3 6:=Fld.of 0 aw
instance:Fld ag 37 4 7:=Fld.of 0 aw
instance:TyStruct ag 37 [(0,1),(1,4),(5,1),(6,1),(7,1)]:=⟨by kernel_rfl⟩
instance:ZeroT ag 37 [ac 0,.slice none 0 0,.slice none 0 0,.slice none 0 0,.slice none 0 0,.slice none 0 0,.slice none 0 0,.slice none 0 0]:=⟨by kernel_rfl⟩
instance:TyOne ag 40:=⟨fun _=>by kernel_rfl,by kernel_rfl⟩
instance:TySl ag 40 26 1 24 [.slice none 0 0]:=⟨by kernel_rfl,by kernel_rfl,by decide,by decide⟩
instance:TyOne ag 41:=⟨fun _=>by kernel_rfl,by kernel_rfl⟩
instance:TySl ag 41 35 1 24 [.slice none 0 0]:=⟨by kernel_rfl,by kernel_rfl,by decide,by decide⟩
instance:TyOne ag 42:=⟨fun _=>by kernel_rfl,by kernel_rfl⟩
instance:ZeroT ag 42 [ac 0]:=⟨by kernel_rfl⟩
instance:TyAgg ag 44 3:=⟨fun _=>by kernel_rfl,by kernel_rfl⟩
instance:Fld ag 44 0 0:=Fld.of 0 aw
instance:TyStruct ag 44 [(0,1),(1,1),(2,1)]:=⟨by kernel_rfl⟩
instance:ZeroT ag 44 [ac 0,ac 0,ac 0]:=⟨by kernel_rfl⟩
instance:TyAgg ag 46 3:=⟨fun _=>by kernel_rfl,by kernel_rfl⟩
instance:Fld ag 46 0 0:=Fld.of 0 aw
instance:Fld ag 46 1 1:=Fld.of 0 aw
instance:Fld ag 46 2 2:=Fld.of 0 aw
instance:TyStruct ag 46 [(0,1),(1,1),(2,1)]:=⟨by kernel_rfl⟩
instance:ZeroT ag 46 [ac 0,ac 0,ac 0]:=⟨by kernel_rfl⟩
instance:TySl ag 53 112 3 24 [ac 0,ac 0,ac 0]:=⟨by kernel_rfl,by kernel_rfl,by decide,by decide⟩
instance:TyOne ag 58:=⟨fun _=>by kernel_rfl,by kernel_rfl⟩
instance:TyPtr ag 58:=⟨⟨126,by kernel_rfl⟩⟩
instance:TyOne ag 63:=⟨fun _=>by kernel_rfl,by kernel_rfl⟩
instance:TySl ag 63 74 5 56 [ac 0,ac 0,ac 0,ac 0,.slice none 0 0]:=⟨by kernel_rfl,by kernel_rfl,by decide,by decide⟩
instance:TyAgg ag 65 7:=⟨fun _=>by kernel_rfl,by kernel_rfl⟩
instance:Fld ag 65 0 0:=Fld.of 0 aw
instance:Fld ag 65 1 1:=Fld.of 0 aw
instance:Fld ag 65 2 2:=Fld.of 0 aw
instance:Fld ag 65 3 3:=Fld.of 0 aw
instance:Fld ag 65 4 4:=Fld.of 0 aw
instance:Fld ag 65 5 5:=Fld.of 0 aw
instance:Fld ag 65 6 6:=Fld.of 0 aw
instance:TyStruct ag 65 [(0,1),(1,1),(2,1),(3,1),(4,1),(5,1),(6,1)]:=⟨by kernel_rfl⟩
instance:ZeroT ag 65 [ac 0,ac 0,ac 0,ac 0,ac 0,ac 0,.slice none 0 0]:=⟨by kernel_rfl⟩
instance:TyOne ag 68:=⟨fun _=>by kernel_rfl,by kernel_rfl⟩
instance:TyOne ag 72:=⟨fun _=>by kernel_rfl,by kernel_rfl⟩
instance:TySl ag 72 91 3 24 [ac 0,ac 0,ac 0]:=⟨by kernel_rfl,by kernel_rfl,by decide,by decide⟩
instance:ZeroT ag 72 [.slice none 0 0]:=⟨by kernel_rfl⟩
instance:TyAgg ag 74 5:=⟨fun _=>by kernel_rfl,by kernel_rfl⟩
instance:Fld ag 74 0 0:=Fld.of 0 aw
instance:Fld ag 74 1 1:=Fld.of 0 aw
instance:Fld ag 74 2 2:=Fld.of 0 aw
instance:Fld ag 74 3 3:=Fld.of 0 aw
instance:Fld ag 74 4 4:=Fld.of 0 aw
instance:TyStruct ag 74 [(0,1),(1,1),(2,1),(3,1),(4,1)]:=⟨by kernel_rfl⟩
instance:ZeroT ag 74 [ac 0,ac 0,ac 0,ac 0,.slice none 0 0]:=⟨by kernel_rfl⟩
instance:TyOne ag 77:=⟨fun _=>by kernel_rfl,by kernel_rfl⟩
instance:TySl ag 77 81 2 16 [ac 0,ac 0]:=⟨by kernel_rfl,by kernel_rfl,by decide,by decide⟩
instance:TyAgg ag 79 9:=⟨fun _=>by kernel_rfl,by kernel_rfl⟩
instance:Fld ag 79 0 0:=Fld.of 0 aw
instance:Fld ag 79 1 1:=Fld.of 0 aw
instance:Fld ag 79 2 2:=Fld.of 0 aw
instance:Fld ag 79 3 3:=Fld.of 0 aw
instance:Fld ag 79 4 4:=Fld.of 0 aw
instance:Fld ag 79 5 5:=Fld.of 0 aw
instance:Fld ag 79 6 6:=Fld.of 0 aw
instance:Fld ag 79 7 7:=Fld.of 0 aw
instance:Fld ag 79 8 8:=Fld.of 0 aw
instance:TyStruct ag 79 [(0,1),(1,1),(2,1),(3,1),(4,1),(5,1),(6,1),(7,1),(8,1)]:=⟨by kernel_rfl⟩
instance:ZeroT ag 79 [.string ⟨#[]⟩,.bool false,ac 0,ac 0,ac 0,ac 0,.slice none 0 0,.slice none 0 0,.slice none 0 0]:=⟨by kernel_rfl⟩
instance:TyAgg ag 81 2:=⟨fun _=>by kernel_rfl,by kernel_rfl⟩
instance:Fld ag 81 0 0:=Fld.of 0 aw
instance:Fld ag 81 1 1:=Fld.of 0 aw
instance:TyStruct ag 81 [(0,1),(1,1)]:=⟨by kernel_rfl⟩
instance:ZeroT ag 81 [ac 0,ac 0]:=⟨by kernel_rfl⟩
instance:TySl ag 87 24 1 8 [.pointer none]:=⟨by kernel_rfl,by kernel_rfl,by decide,by decide⟩
instance:TyAgg ag 89 11:=⟨fun _=>by kernel_rfl,by kernel_rfl⟩
instance:Fld ag 89 0 0:=Fld.of 0 aw
instance:Fld ag 89 1 1:=Fld.of 0 aw
instance:Fld ag 89 2 2:=Fld.of 0 aw
instance:Fld ag 89 3 3:=Fld.of 0 aw
instance:Fld ag 89 4 4:=Fld.of 0 aw
instance:Fld ag 89 5 5:=Fld.of 0 aw
instance:Fld ag 89 6 6:=Fld.of 0 aw
instance:Fld ag 89 7 7:=Fld.of 0 aw
instance:Fld ag 89 8 8:=Fld.of 0 aw
instance:Fld ag 89 9 9:=Fld.of 0 aw
instance:Fld ag 89 10 10:=Fld.of 0 aw
instance:TyStruct ag 89 [(0,1),(1,1),(2,1),(3,1),(4,1),(5,1),(6,1),(7,1),(8,1),(9,1),(10,1)]:=⟨by kernel_rfl⟩
instance:ZeroT ag 89 [ac 0,ac 0,ac 0,ac 0,ac 0,ac 0,ac 0,ac 0,ac 0,.slice none 0 0,.slice none 0 0]:=⟨by kernel_rfl⟩
instance:TyAgg ag 91 3:=⟨fun _=>by kernel_rfl,by kernel_rfl⟩
instance:Fld ag 91 0 0:=Fld.of 0 aw
instance:Fld ag 91 1 1:=Fld.of 0 aw
instance:Fld ag 91 2 2:=Fld.of 0 aw
instance:TyStruct ag 91 [(0,1),(1,1),(2,1)]:=⟨by kernel_rfl⟩
instance:ZeroT ag 91 [ac 0,ac 0,ac 0]:=⟨by kernel_rfl⟩
instance:TyInt ag 100 .u64:=⟨by kernel_rfl⟩
instance:TyOne ag 101:=⟨fun _=>by kernel_rfl,by kernel_rfl⟩
instance:TyOne ag 102:=⟨fun _=>by kernel_rfl,by kernel_rfl⟩
instance:TyOne ag 103:=⟨fun _=>by kernel_rfl,by kernel_rfl⟩
instance:Fld ag 105 0 0:=Fld.of 0 aw
instance:Fld ag 105 1 1:=Fld.of 3 aw
instance:Fld ag 105 2 5:=Fld.of 0 aw
instance:Fld ag 105 3 6:=Fld.of 0 aw
instance:Fld ag 105 4 7:=Fld.of 0 aw
instance:Fld ag 105 5 8:=Fld.of 0 aw
instance:Fld ag 105 6 9:=Fld.of 0 aw
instance:Fld ag 105 7 10:=Fld.of 0 aw
instance:Fld ag 105 8 11:=Fld.of 0 aw
instance:TyStruct ag 105 [(0,1),(1,4),(5,1),(6,1),(7,1),(8,1),(9,1),(10,1),(11,1)]:=⟨by kernel_rfl⟩
instance:ZeroT ag 105 [ac 0,.slice none 0 0,.slice none 0 0,.slice none 0 0,.slice none 0 0,ac 0,ac 0,.map none,.map none,.slice none 0 0,.map none,.map none]:=⟨by kernel_rfl⟩
instance:Fld ag 112 0 0:=Fld.of 0 aw
instance:Fld ag 112 1 1:=Fld.of 0 aw
instance:Fld ag 112 2 2:=Fld.of 0 aw
instance:TyStruct ag 112 [(0,1),(1,1),(2,1)]:=⟨by kernel_rfl⟩
instance:ZeroT ag 112 [ac 0,ac 0,ac 0]:=⟨by kernel_rfl⟩
instance:TyOne ag 115:=⟨fun _=>by kernel_rfl,by kernel_rfl⟩
instance:ZeroT ag 115 [.map none]:=⟨by kernel_rfl⟩
instance:TyAgg ag 116 2:=⟨fun _=>by kernel_rfl,by kernel_rfl⟩
instance:ZeroT ag 116 [ac 0,ac 0]:=⟨by kernel_rfl⟩
instance:TyOne ag 124:=⟨fun _=>by kernel_rfl,by kernel_rfl⟩
instance:Fld ag 126 0 0:=Fld.of 0 aw
instance:Fld ag 126 1 1:=Fld.of 3 aw
instance:Fld ag 126 2 5:=Fld.of 0 aw
instance:Fld ag 126 3 6:=Fld.of 0 aw
instance:Fld ag 126 4 7:=Fld.of 0 aw
instance:Fld ag 126 5 8:=Fld.of 0 aw
instance:Fld ag 126 6 9:=Fld.of 0 aw
instance:Fld ag 126 7 10:=Fld.of 0 aw
instance:TyStruct ag 126 [(0,1),(1,4),(5,1),(6,1),(7,1),(8,1),(9,1),(10,1)]:=⟨by kernel_rfl⟩
instance:ZeroT ag 126 [ac 0,.slice none 0 0,.slice none 0 0,.slice none 0 0,.slice none 0 0,.map none,.map none,.slice none 0 0,.slice none 0 0,.map none,.map none]:=⟨by kernel_rfl⟩
instance:Fld ag 131 0 0:=Fld.of 0 aw
instance:Fld ag 131 1 1:=Fld.of 6 aw
instance:Fld ag 131 2 8:=Fld.of 0 aw
instance:Fld ag 131 3 9:=Fld.of 0 aw
instance:Fld ag 131 4 10:=Fld.of 0 aw
instance:Fld ag 131 5 11:=Fld.of 0 aw
instance:Fld ag 131 6 12:=Fld.of 0 aw
instance:Fld ag 131 7 13:=Fld.of 0 aw
instance:TyStruct ag 131 [(0,1),(1,7),(8,1),(9,1),(10,1),(11,1),(12,1),(13,1)]:=⟨by kernel_rfl⟩
instance:ZeroT ag 131 [.pointer none,ac 0,ac 0,ac 0,ac 0,ac 0,ac 0,.slice none 0 0,.map none,.map none,.map none,.map none,.slice none 0 0,.slice none 0 0]:=⟨by kernel_rfl⟩
instance:TyAgg ag 133 2:=⟨fun _=>by kernel_rfl,by kernel_rfl⟩
instance:TyStruct ag 133 [(0,1),(1,1)]:=⟨by kernel_rfl⟩
instance:ZeroT ag 133 [ac 0,ac 0]:=⟨by kernel_rfl⟩
instance:TyOne ag 144:=⟨fun _=>by kernel_rfl,by kernel_rfl⟩
instance:TySl ag 144 9 1 16 [.string ⟨#[]⟩]:=⟨by kernel_rfl,by kernel_rfl,by decide,by decide⟩
instance:TyAgg ag 147 7:=⟨fun _=>by kernel_rfl,by kernel_rfl⟩
instance:Fld ag 147 0 0:=Fld.of 0 aw
instance:Fld ag 147 1 1:=Fld.of 0 aw
instance:Fld ag 147 2 2:=Fld.of 0 aw
instance:Fld ag 147 3 3:=Fld.of 0 aw
instance:Fld ag 147 4 4:=Fld.of 0 aw
instance:Fld ag 147 5 5:=Fld.of 0 aw
instance:Fld ag 147 6 6:=Fld.of 0 aw
instance:TyStruct ag 147 [(0,1),(1,1),(2,1),(3,1),(4,1),(5,1),(6,1)]:=⟨by kernel_rfl⟩
instance:ZeroT ag 147 [.string ⟨#[]⟩,.bool false,.bool false,.bool false,ac 0,ac 0,ac 0]:=⟨by kernel_rfl⟩
instance:TyOne ag 151:=⟨fun _=>by kernel_rfl,by kernel_rfl⟩
instance:TySl ag 151 155 2 32 [ac 0,.slice none 0 0]:=⟨by kernel_rfl,by kernel_rfl,by decide,by decide⟩
instance:TyAgg ag 153 2:=⟨fun _=>by kernel_rfl,by kernel_rfl⟩
instance:Fld ag 153 0 0:=Fld.of 0 aw
instance:Fld ag 153 1 1:=Fld.of 0 aw
instance:TyStruct ag 153 [(0,1),(1,1)]:=⟨by kernel_rfl⟩
instance:ZeroT ag 153 [.string ⟨#[]⟩,.slice none 0 0]:=⟨by kernel_rfl⟩
instance:TyAgg ag 155 2:=⟨fun _=>by kernel_rfl,by kernel_rfl⟩
instance:Fld ag 155 0 0:=Fld.of 0 aw
instance:Fld ag 155 1 1:=Fld.of 0 aw
instance:TyStruct ag 155 [(0,1),(1,1)]:=⟨by kernel_rfl⟩
instance:ZeroT ag 155 [ac 0,.slice none 0 0]:=⟨by kernel_rfl⟩
instance:TyAgg ag 157 2:=⟨fun _=>by kernel_rfl,by kernel_rfl⟩
instance:Fld ag 157 0 0:=Fld.of 0 aw
instance:Fld ag 157 1 1:=Fld.of 0 aw
instance:TyStruct ag 157 [(0,1),(1,1)]:=⟨by kernel_rfl⟩
instance:ZeroT ag 157 [ac 0,ac 0]:=⟨by kernel_rfl⟩
instance:TyOne ag 158:=⟨fun _=>by kernel_rfl,by kernel_rfl⟩
instance:TySl ag 158 157 2 16 [ac 0,ac 0]:=⟨by kernel_rfl,by kernel_rfl,by decide,by decide⟩
instance:TyAgg ag 160 2:=⟨fun _=>by kernel_rfl,by kernel_rfl⟩
instance:Fld ag 160 0 0:=Fld.of 0 aw
instance:Fld ag 160 1 1:=Fld.of 0 aw
instance:TyStruct ag 160 [(0,1),(1,1)]:=⟨by kernel_rfl⟩
instance:ZeroT ag 160 [.string ⟨#[]⟩,.slice none 0 0]:=⟨by kernel_rfl⟩
instance:TySl ag 166 144 1 24 [.slice none 0 0]:=⟨by kernel_rfl,by kernel_rfl,by decide,by decide⟩
instance:TySl ag 175 77 1 24 [.slice none 0 0]:=⟨by kernel_rfl,by kernel_rfl,by decide,by decide⟩
instance:TySl ag 177 4 1 1 [.bool false]:=⟨by kernel_rfl,by kernel_rfl,by decide,by decide⟩
instance:TySl ag 178 42 1 8 [ac 0]:=⟨by kernel_rfl,by kernel_rfl,by decide,by decide⟩
instance:Fld ag 186 0 0:=Fld.of 0 aw
instance:Fld ag 186 1 1:=Fld.of 0 aw
instance:Fld ag 186 2 2:=Fld.of 0 aw
instance:TyStruct ag 186 [(0,1),(1,1),(2,1)]:=⟨by kernel_rfl⟩
instance:ZeroT ag 186 [ac 0,ac 0,.slice none 0 0]:=⟨by kernel_rfl⟩
instance:TyOne ag 195:=⟨fun _=>by kernel_rfl,by kernel_rfl⟩
instance:TySl ag 210 214 4 40 [ac 0,.string ⟨#[]⟩,ac 0,ac 0]:=⟨by kernel_rfl,by kernel_rfl,by decide,by decide⟩
instance:TyAgg ag 214 4:=⟨fun _=>by kernel_rfl,by kernel_rfl⟩
instance:Fld ag 214 0 0:=Fld.of 0 aw
instance:Fld ag 214 1 1:=Fld.of 0 aw
instance:Fld ag 214 2 2:=Fld.of 0 aw
instance:TyStruct ag 214 [(0,1),(1,1),(2,1),(3,1)]:=⟨by kernel_rfl⟩
instance:ZeroT ag 214 [ac 0,.string ⟨#[]⟩,ac 0,ac 0]:=⟨by kernel_rfl⟩
instance:TyOne ag 238:=⟨fun _=>by kernel_rfl,by kernel_rfl⟩
instance:TyInt ag 238 .u64:=⟨by kernel_rfl⟩
instance:TyOne ag 255:=⟨fun _=>by kernel_rfl,by kernel_rfl⟩
instance:ZeroT ag 255 [.nilFunc]:=⟨by kernel_rfl⟩
instance:TyOne ag 265:=⟨fun _=>by kernel_rfl,by kernel_rfl⟩
instance:TyAgg ag 267 4:=⟨fun _=>by kernel_rfl,by kernel_rfl⟩
instance:Fld ag 267 0 0:=Fld.of 0 aw
instance:Fld ag 267 1 1:=Fld.of 0 aw
instance:Fld ag 267 2 2:=Fld.of 0 aw
instance:Fld ag 267 3 3:=Fld.of 0 aw
instance:TyStruct ag 267 [(0,1),(1,1),(2,1),(3,1)]:=⟨by kernel_rfl⟩
instance:ZeroT ag 267 [.nilFunc,.nilFunc,.bool false,.nilFunc]:=⟨by kernel_rfl⟩
instance:TySl ag 285 290 2 16 [ac 0,.int .u64 0]:=⟨by kernel_rfl,by kernel_rfl,by decide,by decide⟩
instance:TyAgg ag 290 2:=⟨fun _=>by kernel_rfl,by kernel_rfl⟩
instance:Fld ag 290 0 0:=Fld.of 0 aw
instance:Fld ag 290 1 1:=Fld.of 0 aw
instance:TyStruct ag 290 [(0,1),(1,1)]:=⟨by kernel_rfl⟩
instance:ZeroT ag 290 [ac 0,.int .u64 0]:=⟨by kernel_rfl⟩
instance:TyOne ag 300:=⟨fun _=>by kernel_rfl,by kernel_rfl⟩
instance:TySl ag 300 303 4 40 [ac 0,.string ⟨#[]⟩,ac 0,ac 0]:=⟨by kernel_rfl,by kernel_rfl,by decide,by decide⟩
instance:ZeroT ag 300 [.slice none 0 0]:=⟨by kernel_rfl⟩
instance:TyAgg ag 303 4:=⟨fun _=>by kernel_rfl,by kernel_rfl⟩
instance:Fld ag 303 0 0:=Fld.of 0 aw
instance:Fld ag 303 1 1:=Fld.of 0 aw
instance:TyStruct ag 303 [(0,1),(1,1),(2,1),(3,1)]:=⟨by kernel_rfl⟩
instance:ZeroT ag 303 [ac 0,.string ⟨#[]⟩,ac 0,ac 0]:=⟨by kernel_rfl⟩
instance:TyOne ag 352:=⟨fun _=>by kernel_rfl,by kernel_rfl⟩
instance:TySl ag 352 238 1 8 [.int .u64 0]:=⟨by kernel_rfl,by kernel_rfl,by decide,by decide⟩
instance:ZeroT ag 352 [.slice none 0 0]:=⟨by kernel_rfl⟩
instance en8:En ag 8 Tryz.f8 227:=⟨fun _ _=>by kernel_rfl,Tryz.func8,rfl⟩
instance en9:En ag 9 Tryz.f9 13:=⟨fun _ _=>by kernel_rfl,Tryz.func9,rfl⟩
instance en11:En ag 11 Tryz.f11 49:=⟨fun _ _=>by kernel_rfl,Tryz.func11,rfl⟩
instance en13:En ag 13 Tryz.f13 10:=⟨fun _ _=>by kernel_rfl,Tryz.func13,rfl⟩
instance en14:En ag 14 Tryz.f14 11:=⟨fun _ _=>by kernel_rfl,Tryz.func14,rfl⟩
instance en15:En ag 15 Tryz.f15 105:=⟨fun _ _=>by kernel_rfl,Tryz.func15,rfl⟩
instance en16:En ag 16 Tryz.f16 144:=⟨fun _ _=>by kernel_rfl,Tryz.func16,rfl⟩
instance en17:En ag 17 Tryz.f17 74:=⟨fun _ _=>by kernel_rfl,Tryz.func17,rfl⟩
instance en19:En ag 19 Tryz.f19 88:=⟨fun _ _=>by kernel_rfl,Tryz.func19,rfl⟩
instance en23:En ag 23 Tryz.f23 27:=⟨fun _ _=>by kernel_rfl,Tryz.func23,rfl⟩
instance en24:En ag 24 Tryz.f24 100:=⟨fun _ _=>by kernel_rfl,Tryz.func24,rfl⟩
instance en25:En ag 25 Tryz.f25 8:=⟨fun _ _=>by kernel_rfl,Tryz.func25,rfl⟩
instance en26:En ag 26 Tryz.f26 8:=⟨fun _ _=>by kernel_rfl,Tryz.func26,rfl⟩
instance en32:En ag 32 Tryz.f32 96:=⟨fun _ _=>by kernel_rfl,Tryz.func32,rfl⟩
instance en33:En ag 33 Tryz.f33 21:=⟨fun _ _=>by kernel_rfl,Tryz.func33,rfl⟩
instance en34:En ag 34 Tryz.f34 316:=⟨fun _ _=>by kernel_rfl,Tryz.func34,rfl⟩
instance en36:En ag 36 Tryz.f36 50:=⟨fun _ _=>by kernel_rfl,Tryz.func36,rfl⟩
instance en37:En ag 37 Tryz.f37 26:=⟨fun _ _=>by kernel_rfl,Tryz.func37,rfl⟩
instance en38:En ag 38 Tryz.f38 79:=⟨fun _ _=>by kernel_rfl,Tryz.func38,rfl⟩
instance en39:En ag 39 Tryz.f39 9:=⟨fun _ _=>by kernel_rfl,Tryz.func39,rfl⟩
instance en40:En ag 40 Tryz.f40 124:=⟨fun _ _=>by kernel_rfl,Tryz.func40,rfl⟩
instance en42:En ag 42 Tryz.f42 99:=⟨fun _ _=>by kernel_rfl,Tryz.func42,rfl⟩
def en43:Enters ag 43:=fun _ _=>by kernel_rfl
def en44:Enters ag 44:=fun _ _=>by kernel_rfl
instance en45:En ag 45 Tryz.f45 13:=⟨fun _ _=>by kernel_rfl,Tryz.func45,rfl⟩
instance en46:En ag 46 Tryz.f46 118:=⟨fun _ _=>by kernel_rfl,Tryz.func46,rfl⟩
instance en47:En ag 47 Tryz.f47 32:=⟨fun _ _=>by kernel_rfl,Tryz.func47,rfl⟩
instance en48:En ag 48 Tryz.f48 80:=⟨fun _ _=>by kernel_rfl,Tryz.func48,rfl⟩
instance en49:En ag 49 Tryz.f49 22:=⟨fun _ _=>by kernel_rfl,Tryz.func49,rfl⟩
instance en50:En ag 50 Tryz.f50 102:=⟨fun _ _=>by kernel_rfl,Tryz.func50,rfl⟩
instance en51:En ag 51 Tryz.f51 7:=⟨fun _ _=>by kernel_rfl,Tryz.func51,rfl⟩
instance en52:En ag 52 Tryz.f52 34:=⟨fun _ _=>by kernel_rfl,Tryz.func52,rfl⟩
instance en53:En ag 53 Tryz.f53 16:=⟨fun _ _=>by kernel_rfl,Tryz.func53,rfl⟩
instance en55:En ag 55 Tryz.f55 30:=⟨fun _ _=>by kernel_rfl,Tryz.func55,rfl⟩
def en56:Enters ag 56:=fun _ _=>by kernel_rfl
instance en57:En ag 57 Tryz.f57 17:=⟨fun _ _=>by kernel_rfl,Tryz.func57,rfl⟩
instance en58:En ag 58 Tryz.f58 18:=⟨fun _ _=>by kernel_rfl,Tryz.func58,rfl⟩
instance en59:En ag 59 Tryz.f59 20:=⟨fun _ _=>by kernel_rfl,Tryz.func59,rfl⟩
instance en62:En ag 62 Tryz.f62 23:=⟨fun _ _=>by kernel_rfl,Tryz.func62,rfl⟩
instance en63:En ag 63 Tryz.f63 16:=⟨fun _ _=>by kernel_rfl,Tryz.func63,rfl⟩
instance en64:En ag 64 Tryz.f64 62:=⟨fun _ _=>by kernel_rfl,Tryz.func64,rfl⟩
instance en65:En ag 65 Tryz.f65 16:=⟨fun _ _=>by kernel_rfl,Tryz.func65,rfl⟩
instance en66:En ag 66 Tryz.f66 16:=⟨fun _ _=>by kernel_rfl,Tryz.func66,rfl⟩
instance en67:En ag 67 Tryz.f67 29:=⟨fun _ _=>by kernel_rfl,Tryz.func67,rfl⟩
instance en68:En ag 68 Tryz.f68 8:=⟨fun _ _=>by kernel_rfl,Tryz.func68,rfl⟩
instance en69:En ag 69 Tryz.f69 29:=⟨fun _ _=>by kernel_rfl,Tryz.func69,rfl⟩
instance en70:En ag 70 Tryz.f70 12:=⟨fun _ _=>by kernel_rfl,Tryz.func70,rfl⟩
instance en71:En ag 71 Tryz.f71 18:=⟨fun _ _=>by kernel_rfl,Tryz.func71,rfl⟩
instance en83:En ag 83 Tryz.f83 80:=⟨fun _ _=>by kernel_rfl,Tryz.func83,rfl⟩
instance en84:En ag 84 Tryz.f84 34:=⟨fun _ _=>by kernel_rfl,Tryz.func84,rfl⟩
instance en85:En ag 85 Tryz.f85 18:=⟨fun _ _=>by kernel_rfl,Tryz.func85,rfl⟩
instance en86:En ag 86 Tryz.f86 68:=⟨fun _ _=>by kernel_rfl,Tryz.func86,rfl⟩
instance en87:En ag 87 Tryz.f87 151:=⟨fun _ _=>by kernel_rfl,Tryz.func87,rfl⟩
instance en88:En ag 88 Tryz.f88 42:=⟨fun _ _=>by kernel_rfl,Tryz.func88,rfl⟩
instance en89:En ag 89 Tryz.f89 78:=⟨fun _ _=>by kernel_rfl,Tryz.func89,rfl⟩
instance en90:En ag 90 Tryz.f90 67:=⟨fun _ _=>by kernel_rfl,Tryz.func90,rfl⟩
instance en91:En ag 91 Tryz.f91 195:=⟨fun _ _=>by kernel_rfl,Tryz.func91,rfl⟩
instance en92:En ag 92 Tryz.f92 166:=⟨fun _ _=>by kernel_rfl,Tryz.func92,rfl⟩
instance en93:En ag 93 Tryz.f93 51:=⟨fun _ _=>by kernel_rfl,Tryz.func93,rfl⟩
instance en94:En ag 94 Tryz.f94 169:=⟨fun _ _=>by kernel_rfl,Tryz.func94,rfl⟩
def en95:Enters ag 95:=fun _ _=>by kernel_rfl
instance en96:En ag 96 Tryz.f96 94:=⟨fun _ _=>by kernel_rfl,Tryz.func96,rfl⟩
instance en97:En ag 97 Tryz.f97 58:=⟨fun _ _=>by kernel_rfl,Tryz.func97,rfl⟩
instance en98:En ag 98 Tryz.f98 15:=⟨fun _ _=>by kernel_rfl,Tryz.func98,rfl⟩
instance en99:En ag 99 Tryz.f99 25:=⟨fun _ _=>by kernel_rfl,Tryz.func99,rfl⟩
def Hv:Enters ag 100:=fun _ _=>by kernel_rfl
instance en101:En ag 101 Tryz.f101 128:=⟨fun _ _=>by kernel_rfl,Tryz.func101,rfl⟩
instance en102:En ag 102 Tryz.f102 122:=⟨fun _ _=>by kernel_rfl,Tryz.func102,rfl⟩
instance en103:En ag 103 Tryz.f103 8:=⟨fun _ _=>by kernel_rfl,Tryz.func103,rfl⟩
instance en104:En ag 104 Tryz.f104 85:=⟨fun _ _=>by kernel_rfl,Tryz.func104,rfl⟩
instance en105:En ag 105 Tryz.f105 26:=⟨fun _ _=>by kernel_rfl,Tryz.func105,rfl⟩
instance en106:En ag 106 Tryz.f106 26:=⟨fun _ _=>by kernel_rfl,Tryz.func106,rfl⟩
instance en107:En ag 107 Tryz.f107 26:=⟨fun _ _=>by kernel_rfl,Tryz.func107,rfl⟩
instance en110:En ag 110 Tryz.f110 6:=⟨fun _ _=>by kernel_rfl,Tryz.func110,rfl⟩
instance en111:En ag 111 Tryz.f111 40:=⟨fun _ _=>by kernel_rfl,Tryz.func111,rfl⟩
instance en112:En ag 112 Tryz.f112 21:=⟨fun _ _=>by kernel_rfl,Tryz.func112,rfl⟩
instance en113:En ag 113 Tryz.f113 21:=⟨fun _ _=>by kernel_rfl,Tryz.func113,rfl⟩
instance en114:En ag 114 Tryz.f114 25:=⟨fun _ _=>by kernel_rfl,Tryz.func114,rfl⟩
instance en115:En ag 115 Tryz.f115 24:=⟨fun _ _=>by kernel_rfl,Tryz.func115,rfl⟩
instance en116:En ag 116 Tryz.f116 8:=⟨fun _ _=>by kernel_rfl,Tryz.func116,rfl⟩
instance en117:En ag 117 Tryz.f117 29:=⟨fun _ _=>by kernel_rfl,Tryz.func117,rfl⟩
instance en118:En ag 118 Tryz.f118 16:=⟨fun _ _=>by kernel_rfl,Tryz.func118,rfl⟩
instance en119:En ag 119 Tryz.f119 29:=⟨fun _ _=>by kernel_rfl,Tryz.func119,rfl⟩
instance en120:En ag 120 Tryz.f120 8:=⟨fun _ _=>by kernel_rfl,Tryz.func120,rfl⟩
instance en121:En ag 121 Tryz.f121 29:=⟨fun _ _=>by kernel_rfl,Tryz.func121,rfl⟩
instance en122:En ag 122 Tryz.f122 8:=⟨fun _ _=>by kernel_rfl,Tryz.func122,rfl⟩
instance en123:En ag 123 Tryz.f123 70:=⟨fun _ _=>by kernel_rfl,Tryz.func123,rfl⟩
instance en124:En ag 124 Tryz.f124 186:=⟨fun _ _=>by kernel_rfl,Tryz.func124,rfl⟩
instance en125:En ag 125 Tryz.f125 29:=⟨fun _ _=>by kernel_rfl,Tryz.func125,rfl⟩
instance en126:En ag 126 Tryz.f126 8:=⟨fun _ _=>by kernel_rfl,Tryz.func126,rfl⟩
instance en127:En ag 127 Tryz.f127 8:=⟨fun _ _=>by kernel_rfl,Tryz.func127,rfl⟩
instance en130:En ag 130 Tryz.f130 70:=⟨fun _ _=>by kernel_rfl,Tryz.func130,rfl⟩
instance en131:En ag 131 Tryz.f131 28:=⟨fun _ _=>by kernel_rfl,Tryz.func131,rfl⟩
instance en132:En ag 132 Tryz.f132 12:=⟨fun _ _=>by kernel_rfl,Tryz.func132,rfl⟩
instance en133:En ag 133 Tryz.f133 22:=⟨fun _ _=>by kernel_rfl,Tryz.func133,rfl⟩
instance en134:En ag 134 Tryz.f134 13:=⟨fun _ _=>by kernel_rfl,Tryz.func134,rfl⟩
instance en135:En ag 135 Tryz.f135 86:=⟨fun _ _=>by kernel_rfl,Tryz.func135,rfl⟩
instance en136:En ag 136 Tryz.f136 218:=⟨fun _ _=>by kernel_rfl,Tryz.func136,rfl⟩
instance en137:En ag 137 Tryz.f137 36:=⟨fun _ _=>by kernel_rfl,Tryz.func137,rfl⟩
instance en138:En ag 138 Tryz.f138 88:=⟨fun _ _=>by kernel_rfl,Tryz.func138,rfl⟩
instance en139:En ag 139 Tryz.f139 38:=⟨fun _ _=>by kernel_rfl,Tryz.func139,rfl⟩
instance en140:En ag 140 Tryz.f140 66:=⟨fun _ _=>by kernel_rfl,Tryz.func140,rfl⟩
instance en141:En ag 141 Tryz.f141 22:=⟨fun _ _=>by kernel_rfl,Tryz.func141,rfl⟩
instance en142:En ag 142 Tryz.f142 36:=⟨fun _ _=>by kernel_rfl,Tryz.func142,rfl⟩
instance en143:En ag 143 Tryz.f143 8:=⟨fun _ _=>by kernel_rfl,Tryz.func143,rfl⟩
instance en144:En ag 144 Tryz.f144 21:=⟨fun _ _=>by kernel_rfl,Tryz.func144,rfl⟩
instance en145:En ag 145 Tryz.f145 9:=⟨fun _ _=>by kernel_rfl,Tryz.func145,rfl⟩
instance en146:En ag 146 Tryz.f146 15:=⟨fun _ _=>by kernel_rfl,Tryz.func146,rfl⟩
instance en147:En ag 147 Tryz.f147 9:=⟨fun _ _=>by kernel_rfl,Tryz.func147,rfl⟩
instance en148:En ag 148 Tryz.f148 85:=⟨fun _ _=>by kernel_rfl,Tryz.func148,rfl⟩
instance en149:En ag 149 Tryz.f149 97:=⟨fun _ _=>by kernel_rfl,Tryz.func149,rfl⟩
instance en150:En ag 150 Tryz.f150 59:=⟨fun _ _=>by kernel_rfl,Tryz.func150,rfl⟩
instance en151:En ag 151 Tryz.f151 54:=⟨fun _ _=>by kernel_rfl,Tryz.func151,rfl⟩
instance en152:En ag 152 Tryz.f152 92:=⟨fun _ _=>by kernel_rfl,Tryz.func152,rfl⟩
instance en153:En ag 153 Tryz.f153 98:=⟨fun _ _=>by kernel_rfl,Tryz.func153,rfl⟩
instance en154:En ag 154 Tryz.f154 33:=⟨fun _ _=>by kernel_rfl,Tryz.func154,rfl⟩
instance en155:En ag 155 Tryz.f155 96:=⟨fun _ _=>by kernel_rfl,Tryz.func155,rfl⟩
instance en156:En ag 156 Tryz.f156 46:=⟨fun _ _=>by kernel_rfl,Tryz.func156,rfl⟩
instance en157:En ag 157 Tryz.f157 9:=⟨fun _ _=>by kernel_rfl,Tryz.func157,rfl⟩
instance en167:En ag 167 Tryz.f167 25:=⟨fun _ _=>by kernel_rfl,Tryz.func167,rfl⟩
instance en168:En ag 168 Tryz.f168 18:=⟨fun _ _=>by kernel_rfl,Tryz.func168,rfl⟩
instance en169:En ag 169 Tryz.f169 21:=⟨fun _ _=>by kernel_rfl,Tryz.func169,rfl⟩
instance en170:En ag 170 Tryz.f170 18:=⟨fun _ _=>by kernel_rfl,Tryz.func170,rfl⟩
instance en171:En ag 171 Tryz.f171 7:=⟨fun _ _=>by kernel_rfl,Tryz.func171,rfl⟩
instance en172:En ag 172 Tryz.f172 18:=⟨fun _ _=>by kernel_rfl,Tryz.func172,rfl⟩
instance en173:En ag 173 Tryz.f173 7:=⟨fun _ _=>by kernel_rfl,Tryz.func173,rfl⟩
instance en174:En ag 174 Tryz.f174 18:=⟨fun _ _=>by kernel_rfl,Tryz.func174,rfl⟩
instance en175:En ag 175 Tryz.f175 6:=⟨fun _ _=>by kernel_rfl,Tryz.func175,rfl⟩
instance en176:En ag 176 Tryz.f176 34:=⟨fun _ _=>by kernel_rfl,Tryz.func176,rfl⟩
instance en177:En ag 177 Tryz.f177 6:=⟨fun _ _=>by kernel_rfl,Tryz.func177,rfl⟩
instance en178:En ag 178 Tryz.f178 6:=⟨fun _ _=>by kernel_rfl,Tryz.func178,rfl⟩
instance en179:En ag 179 Tryz.f179 6:=⟨fun _ _=>by kernel_rfl,Tryz.func179,rfl⟩
instance en180:En ag 180 Tryz.f180 27:=⟨fun _ _=>by kernel_rfl,Tryz.func180,rfl⟩
instance en181:En ag 181 Tryz.f181 5:=⟨fun _ _=>by kernel_rfl,Tryz.func181,rfl⟩
instance en182:En ag 182 Tryz.f182 27:=⟨fun _ _=>by kernel_rfl,Tryz.func182,rfl⟩
instance en183:En ag 183 Tryz.f183 5:=⟨fun _ _=>by kernel_rfl,Tryz.func183,rfl⟩
instance en184:En ag 184 Tryz.f184 27:=⟨fun _ _=>by kernel_rfl,Tryz.func184,rfl⟩
instance en185:En ag 185 Tryz.f185 5:=⟨fun _ _=>by kernel_rfl,Tryz.func185,rfl⟩
instance en186:En ag 186 Tryz.f186 27:=⟨fun _ _=>by kernel_rfl,Tryz.func186,rfl⟩
instance en187:En ag 187 Tryz.f187 5:=⟨fun _ _=>by kernel_rfl,Tryz.func187,rfl⟩
instance en188:En ag 188 Tryz.f188 28:=⟨fun _ _=>by kernel_rfl,Tryz.func188,rfl⟩
instance en189:En ag 189 Tryz.f189 36:=⟨fun _ _=>by kernel_rfl,Tryz.func189,rfl⟩
instance en190:En ag 190 Tryz.f190 31:=⟨fun _ _=>by kernel_rfl,Tryz.func190,rfl⟩
instance en191:En ag 191 Tryz.f191 52:=⟨fun _ _=>by kernel_rfl,Tryz.func191,rfl⟩
instance en192:En ag 192 Tryz.f192 59:=⟨fun _ _=>by kernel_rfl,Tryz.func192,rfl⟩
instance en193:En ag 193 Tryz.f193 14:=⟨fun _ _=>by kernel_rfl,Tryz.func193,rfl⟩
instance en194:En ag 194 Tryz.f194 18:=⟨fun _ _=>by kernel_rfl,Tryz.func194,rfl⟩
instance en195:En ag 195 Tryz.f195 8:=⟨fun _ _=>by kernel_rfl,Tryz.func195,rfl⟩
instance en196:En ag 196 Tryz.f196 37:=⟨fun _ _=>by kernel_rfl,Tryz.func196,rfl⟩
instance en197:En ag 197 Tryz.f197 5:=⟨fun _ _=>by kernel_rfl,Tryz.func197,rfl⟩
instance en198:En ag 198 Tryz.f198 18:=⟨fun _ _=>by kernel_rfl,Tryz.func198,rfl⟩
instance en199:En ag 199 Tryz.f199 11:=⟨fun _ _=>by kernel_rfl,Tryz.func199,rfl⟩
instance en200:En ag 200 Tryz.f200 26:=⟨fun _ _=>by kernel_rfl,Tryz.func200,rfl⟩
instance en201:En ag 201 Tryz.f201 24:=⟨fun _ _=>by kernel_rfl,Tryz.func201,rfl⟩
instance en202:En ag 202 Tryz.f202 43:=⟨fun _ _=>by kernel_rfl,Tryz.func202,rfl⟩
instance en203:En ag 203 Tryz.f203 12:=⟨fun _ _=>by kernel_rfl,Tryz.func203,rfl⟩
instance en204:En ag 204 Tryz.f204 6:=⟨fun _ _=>by kernel_rfl,Tryz.func204,rfl⟩
instance en205:En ag 205 Tryz.f205 8:=⟨fun _ _=>by kernel_rfl,Tryz.func205,rfl⟩
instance en206:En ag 206 Tryz.f206 6:=⟨fun _ _=>by kernel_rfl,Tryz.func206,rfl⟩
instance en207:En ag 207 Tryz.f207 8:=⟨fun _ _=>by kernel_rfl,Tryz.func207,rfl⟩
instance en208:En ag 208 Tryz.f208 29:=⟨fun _ _=>by kernel_rfl,Tryz.func208,rfl⟩
instance en209:En ag 209 Tryz.f209 8:=⟨fun _ _=>by kernel_rfl,Tryz.func209,rfl⟩
instance en210:En ag 210 Tryz.f210 8:=⟨fun _ _=>by kernel_rfl,Tryz.func210,rfl⟩
instance en211:En ag 211 Tryz.f211 33:=⟨fun _ _=>by kernel_rfl,Tryz.func211,rfl⟩
instance en212:En ag 212 Tryz.f212 9:=⟨fun _ _=>by kernel_rfl,Tryz.func212,rfl⟩
instance en213:En ag 213 Tryz.f213 22:=⟨fun _ _=>by kernel_rfl,Tryz.func213,rfl⟩
instance en214:En ag 214 Tryz.f214 93:=⟨fun _ _=>by kernel_rfl,Tryz.func214,rfl⟩
instance en215:En ag 215 Tryz.f215 35:=⟨fun _ _=>by kernel_rfl,Tryz.func215,rfl⟩
instance en216:En ag 216 Tryz.f216 33:=⟨fun _ _=>by kernel_rfl,Tryz.func216,rfl⟩
instance en217:En ag 217 Tryz.f217 17:=⟨fun _ _=>by kernel_rfl,Tryz.func217,rfl⟩
instance en218:En ag 218 Tryz.f218 31:=⟨fun _ _=>by kernel_rfl,Tryz.func218,rfl⟩
instance en219:En ag 219 Tryz.f219 69:=⟨fun _ _=>by kernel_rfl,Tryz.func219,rfl⟩
instance en220:En ag 220 Tryz.f220 39:=⟨fun _ _=>by kernel_rfl,Tryz.func220,rfl⟩
instance en222:En ag 222 Tryz.f222 25:=⟨fun _ _=>by kernel_rfl,Tryz.func222,rfl⟩
instance en223:En ag 223 Tryz.f223 24:=⟨fun _ _=>by kernel_rfl,Tryz.func223,rfl⟩
instance en224:En ag 224 Tryz.f224 22:=⟨fun _ _=>by kernel_rfl,Tryz.func224,rfl⟩
instance en225:En ag 225 Tryz.f225 58:=⟨fun _ _=>by kernel_rfl,Tryz.func225,rfl⟩
instance en226:En ag 226 Tryz.f226 87:=⟨fun _ _=>by kernel_rfl,Tryz.func226,rfl⟩
instance en227:En ag 227 Tryz.f227 66:=⟨fun _ _=>by kernel_rfl,Tryz.func227,rfl⟩
instance en228:En ag 228 Tryz.f228 89:=⟨fun _ _=>by kernel_rfl,Tryz.func228,rfl⟩
instance en229:En ag 229 Tryz.f229 40:=⟨fun _ _=>by kernel_rfl,Tryz.func229,rfl⟩
instance en230:En ag 230 Tryz.f230 9:=⟨fun _ _=>by kernel_rfl,Tryz.func230,rfl⟩
instance en231:En ag 231 Tryz.f231 16:=⟨fun _ _=>by kernel_rfl,Tryz.func231,rfl⟩
instance en232:En ag 232 Tryz.f232 8:=⟨fun _ _=>by kernel_rfl,Tryz.func232,rfl⟩
instance en233:En ag 233 Tryz.f233 29:=⟨fun _ _=>by kernel_rfl,Tryz.func233,rfl⟩
instance en234:En ag 234 Tryz.f234 87:=⟨fun _ _=>by kernel_rfl,Tryz.func234,rfl⟩
instance en235:En ag 235 Tryz.f235 9:=⟨fun _ _=>by kernel_rfl,Tryz.func235,rfl⟩
instance en236:En ag 236 Tryz.f236 58:=⟨fun _ _=>by kernel_rfl,Tryz.func236,rfl⟩
instance en237:En ag 237 Tryz.f237 5:=⟨fun _ _=>by kernel_rfl,Tryz.func237,rfl⟩
instance en238:En ag 238 Tryz.f238 5:=⟨fun _ _=>by kernel_rfl,Tryz.func238,rfl⟩
instance en239:En ag 239 Tryz.f239 6:=⟨fun _ _=>by kernel_rfl,Tryz.func239,rfl⟩
instance en240:En ag 240 Tryz.f240 53:=⟨fun _ _=>by kernel_rfl,Tryz.func240,rfl⟩
instance en241:En ag 241 Tryz.f241 51:=⟨fun _ _=>by kernel_rfl,Tryz.func241,rfl⟩
instance en242:En ag 242 Tryz.f242 135:=⟨fun _ _=>by kernel_rfl,Tryz.func242,rfl⟩
instance en243:En ag 243 Tryz.f243 9:=⟨fun _ _=>by kernel_rfl,Tryz.func243,rfl⟩
instance en244:En ag 244 Tryz.f244 10:=⟨fun _ _=>by kernel_rfl,Tryz.func244,rfl⟩
instance en245:En ag 245 Tryz.f245 20:=⟨fun _ _=>by kernel_rfl,Tryz.func245,rfl⟩
instance en251:En ag 251 Tryz.f251 25:=⟨fun _ _=>by kernel_rfl,Tryz.func251,rfl⟩
instance en252:En ag 252 Tryz.f252 11:=⟨fun _ _=>by kernel_rfl,Tryz.func252,rfl⟩
instance en253:En ag 253 Tryz.f253 18:=⟨fun _ _=>by kernel_rfl,Tryz.func253,rfl⟩
instance en254:En ag 254 Tryz.f254 21:=⟨fun _ _=>by kernel_rfl,Tryz.func254,rfl⟩
instance en255:En ag 255 Tryz.f255 5:=⟨fun _ _=>by kernel_rfl,Tryz.func255,rfl⟩
instance en256:En ag 256 Tryz.f256 5:=⟨fun _ _=>by kernel_rfl,Tryz.func256,rfl⟩
instance en257:En ag 257 Tryz.f257 13:=⟨fun _ _=>by kernel_rfl,Tryz.func257,rfl⟩
instance en258:En ag 258 Tryz.f258 3:=⟨fun _ _=>by kernel_rfl,Tryz.func258,rfl⟩
instance en259:En ag 259 Tryz.f259 171:=⟨fun _ _=>by kernel_rfl,Tryz.func259,rfl⟩
instance en261:En ag 261 Tryz.f261 18:=⟨fun _ _=>by kernel_rfl,Tryz.func261,rfl⟩
instance en262:En ag 262 Tryz.f262 8:=⟨fun _ _=>by kernel_rfl,Tryz.func262,rfl⟩
instance en264:En ag 264 Tryz.f264 73:=⟨fun _ _=>by kernel_rfl,Tryz.func264,rfl⟩
instance en267:En ag 267 Tryz.f267 29:=⟨fun _ _=>by kernel_rfl,Tryz.func267,rfl⟩
instance en268:En ag 268 Tryz.f268 39:=⟨fun _ _=>by kernel_rfl,Tryz.func268,rfl⟩
instance en269:En ag 269 Tryz.f269 91:=⟨fun _ _=>by kernel_rfl,Tryz.func269,rfl⟩
instance en270:En ag 270 Tryz.f270 102:=⟨fun _ _=>by kernel_rfl,Tryz.func270,rfl⟩
instance en271:En ag 271 Tryz.f271 56:=⟨fun _ _=>by kernel_rfl,Tryz.func271,rfl⟩
instance en272:En ag 272 Tryz.f272 19:=⟨fun _ _=>by kernel_rfl,Tryz.func272,rfl⟩
instance en273:En ag 273 Tryz.f273 12:=⟨fun _ _=>by kernel_rfl,Tryz.func273,rfl⟩
instance en274:En ag 274 Tryz.f274 4:=⟨fun _ _=>by kernel_rfl,Tryz.func274,rfl⟩
instance en275:En ag 275 Tryz.f275 17:=⟨fun _ _=>by kernel_rfl,Tryz.func275,rfl⟩
instance en276:En ag 276 Tryz.f276 6:=⟨fun _ _=>by kernel_rfl,Tryz.func276,rfl⟩
instance en277:En ag 277 Tryz.f277 63:=⟨fun _ _=>by kernel_rfl,Tryz.func277,rfl⟩
instance en278:En ag 278 Tryz.f278 6:=⟨fun _ _=>by kernel_rfl,Tryz.func278,rfl⟩
instance en280:En ag 280 Tryz.f280 4:=⟨fun _ _=>by kernel_rfl,Tryz.func280,rfl⟩
instance en281:En ag 281 Tryz.f281 9:=⟨fun _ _=>by kernel_rfl,Tryz.func281,rfl⟩
def Hu:Enters ag 282:=fun _ _=>by kernel_rfl
instance en284:En ag 284 Tryz.f284 74:=⟨fun _ _=>by kernel_rfl,Tryz.func284,rfl⟩
instance en289:En ag 289 Tryz.f289 19:=⟨fun _ _=>by kernel_rfl,Tryz.func289,rfl⟩
instance en290:En ag 290 Tryz.f290 113:=⟨fun _ _=>by kernel_rfl,Tryz.func290,rfl⟩
instance en291:En ag 291 Tryz.f291 5:=⟨fun _ _=>by kernel_rfl,Tryz.func291,rfl⟩
instance en292:En ag 292 Tryz.f292 16:=⟨fun _ _=>by kernel_rfl,Tryz.func292,rfl⟩
instance en293:En ag 293 Tryz.f293 53:=⟨fun _ _=>by kernel_rfl,Tryz.func293,rfl⟩
instance en295:En ag 295 Tryz.f295 34:=⟨fun _ _=>by kernel_rfl,Tryz.func295,rfl⟩
instance en296:En ag 296 Tryz.f296 32:=⟨fun _ _=>by kernel_rfl,Tryz.func296,rfl⟩
instance en297:En ag 297 Tryz.f297 99:=⟨fun _ _=>by kernel_rfl,Tryz.func297,rfl⟩
instance en299:En ag 299 Tryz.f299 6:=⟨fun _ _=>by kernel_rfl,Tryz.func299,rfl⟩
instance en300:En ag 300 Tryz.f300 100:=⟨fun _ _=>by kernel_rfl,Tryz.func300,rfl⟩
instance en301:En ag 301 Tryz.f301 8:=⟨fun _ _=>by kernel_rfl,Tryz.func301,rfl⟩
instance en302:En ag 302 Tryz.f302 22:=⟨fun _ _=>by kernel_rfl,Tryz.func302,rfl⟩
instance en306:En ag 306 Tryz.f306 9:=⟨fun _ _=>by kernel_rfl,Tryz.func306,rfl⟩
instance en307:En ag 307 Tryz.f307 56:=⟨fun _ _=>by kernel_rfl,Tryz.func307,rfl⟩
instance en308:En ag 308 Tryz.f308 13:=⟨fun _ _=>by kernel_rfl,Tryz.func308,rfl⟩
instance en310:En ag 310 Tryz.f310 20:=⟨fun _ _=>by kernel_rfl,Tryz.func310,rfl⟩
instance en320:En ag 320 Tryz.f320 17:=⟨fun _ _=>by kernel_rfl,Tryz.func320,rfl⟩
instance en321:En ag 321 Tryz.f321 9:=⟨fun _ _=>by kernel_rfl,Tryz.func321,rfl⟩
instance en322:En ag 322 Tryz.f322 52:=⟨fun _ _=>by kernel_rfl,Tryz.func322,rfl⟩
def Ht:Enters ag 323:=fun _ _=>by kernel_rfl
instance en324:En ag 324 Tryz.f324 20:=⟨fun _ _=>by kernel_rfl,Tryz.func324,rfl⟩
instance en325:En ag 325 Tryz.f325 6:=⟨fun _ _=>by kernel_rfl,Tryz.func325,rfl⟩
instance en334:En ag 334 Tryz.f334 9:=⟨fun _ _=>by kernel_rfl,Tryz.func334,rfl⟩
instance en336:En ag 336 Tryz.f336 43:=⟨fun _ _=>by kernel_rfl,Tryz.func336,rfl⟩
def mixed:Tryz.prog.follows .mixedOrders=true:=by kernel_rfl
