/- Facts on the tables of the types of this program, each computed by the kernel. -/
import Derived.Test.YtfmgkkofledkbaaGreatDoorGCraftLootsa
import Derived.Test.YtfmgkkofledkbaaGreatDoorProg
import Derived.KernelRfl
namespace Go.Proofs.YtfmgkkofledkbaaGreatDoor
open Go.V
instance : TyOne Tryz.prog 3 := ⟨fun _ => by kernel_rfl, by kernel_rfl⟩
instance : TyInt Tryz.prog 3 .i64 := ⟨by kernel_rfl⟩
instance : ZeroT Tryz.prog 3 [.int .i64 0] := ⟨by kernel_rfl⟩
instance : TyOne Tryz.prog 4 := ⟨fun _ => by kernel_rfl, by kernel_rfl⟩
instance : TyBool Tryz.prog 4 := ⟨by kernel_rfl⟩
instance : TyOne Tryz.prog 5 := ⟨fun _ => by kernel_rfl, by kernel_rfl⟩
instance : TyInt Tryz.prog 5 .u8 := ⟨by kernel_rfl⟩
instance : TyOne Tryz.prog 9 := ⟨fun _ => by kernel_rfl, by kernel_rfl⟩
instance : TyStr Tryz.prog 9 := ⟨by kernel_rfl⟩
instance : TyPtr Tryz.prog 22 := ⟨⟨123, by kernel_rfl⟩⟩
instance : TyOne Tryz.prog 23 := ⟨fun _ => by kernel_rfl, by kernel_rfl⟩
instance : TyPtr Tryz.prog 23 := ⟨⟨152, by kernel_rfl⟩⟩
instance : TyOne Tryz.prog 27 := ⟨fun _ => by kernel_rfl, by kernel_rfl⟩
instance : TySl Tryz.prog 27 108 7 48 [.string ⟨#[]⟩, .bool false, .bool false, .bool false, .int .i64 0, .int .i64 0, .int .i64 0] := ⟨by kernel_rfl, by kernel_rfl, by decide, by decide⟩
instance : TyOne Tryz.prog 28 := ⟨fun _ => by kernel_rfl, by kernel_rfl⟩
instance : TySl Tryz.prog 28 67 9 128 [.string ⟨#[]⟩, .bool false, .int .i64 0, .int .i64 0, .int .i64 0, .int .i64 0, .slice none 0 0, .slice none 0 0, .slice none 0 0] := ⟨by kernel_rfl, by kernel_rfl, by decide, by decide⟩
instance : TyOne Tryz.prog 29 := ⟨fun _ => by kernel_rfl, by kernel_rfl⟩
instance : TySl Tryz.prog 29 37 2 40 [.string ⟨#[]⟩, .slice none 0 0] := ⟨by kernel_rfl, by kernel_rfl, by decide, by decide⟩
instance : TyOne Tryz.prog 30 := ⟨fun _ => by kernel_rfl, by kernel_rfl⟩
instance : TySl Tryz.prog 30 115 2 40 [.string ⟨#[]⟩, .slice none 0 0] := ⟨by kernel_rfl, by kernel_rfl, by decide, by decide⟩
instance : TyAgg Tryz.prog 32 4 := ⟨fun _ => by kernel_rfl, by kernel_rfl⟩
instance : Fld Tryz.prog 32 0 0 := Fld.of 0 (by kernel_rfl)
instance : Fld Tryz.prog 32 1 1 := Fld.of 0 (by kernel_rfl)
instance : Fld Tryz.prog 32 2 2 := Fld.of 0 (by kernel_rfl)
instance : Fld Tryz.prog 32 3 3 := Fld.of 0 (by kernel_rfl)
instance : TyStruct Tryz.prog 32 [(0, 1), (1, 1), (2, 1), (3, 1)] := ⟨by kernel_rfl⟩
instance : ZeroT Tryz.prog 32 [.slice none 0 0, .slice none 0 0, .slice none 0 0, .slice none 0 0] := ⟨by kernel_rfl⟩
instance : TyOne Tryz.prog 34 := ⟨fun _ => by kernel_rfl, by kernel_rfl⟩
instance : TySl Tryz.prog 34 3 1 8 [.int .i64 0] := ⟨by kernel_rfl, by kernel_rfl, by decide, by decide⟩
instance : ZeroT Tryz.prog 34 [.slice none 0 0] := ⟨by kernel_rfl⟩
instance : TyOne Tryz.prog 35 := ⟨fun _ => by kernel_rfl, by kernel_rfl⟩
instance : TySl Tryz.prog 35 40 2 32 [.int .i64 0, .slice none 0 0] := ⟨by kernel_rfl, by kernel_rfl, by decide, by decide⟩
instance : TyAgg Tryz.prog 37 2 := ⟨fun _ => by kernel_rfl, by kernel_rfl⟩
instance : Fld Tryz.prog 37 0 0 := Fld.of 0 (by kernel_rfl)
instance : Fld Tryz.prog 37 1 1 := Fld.of 0 (by kernel_rfl)
instance : TyStruct Tryz.prog 37 [(0, 1), (1, 1)] := ⟨by kernel_rfl⟩
instance : ZeroT Tryz.prog 37 [.string ⟨#[]⟩, .slice none 0 0] := ⟨by kernel_rfl⟩
instance : TyOne Tryz.prog 38 := ⟨fun _ => by kernel_rfl, by kernel_rfl⟩
instance : TySl Tryz.prog 38 110 2 16 [.int .i64 0, .int .i64 0] := ⟨by kernel_rfl, by kernel_rfl, by decide, by decide⟩
instance : TyAgg Tryz.prog 40 2 := ⟨fun _ => by kernel_rfl, by kernel_rfl⟩
instance : Fld Tryz.prog 40 0 0 := Fld.of 0 (by kernel_rfl)
instance : Fld Tryz.prog 40 1 1 := Fld.of 0 (by kernel_rfl)
instance : TyStruct Tryz.prog 40 [(0, 1), (1, 1)] := ⟨by kernel_rfl⟩
instance : ZeroT Tryz.prog 40 [.int .i64 0, .slice none 0 0] := ⟨by kernel_rfl⟩
instance : TyOne Tryz.prog 43 := ⟨fun _ => by kernel_rfl, by kernel_rfl⟩
instance : ZeroT Tryz.prog 43 [.int .i64 0] := ⟨by kernel_rfl⟩
instance : TyOne Tryz.prog 46 := ⟨fun _ => by kernel_rfl, by kernel_rfl⟩
instance : TyPtr Tryz.prog 46 := ⟨⟨128, by kernel_rfl⟩⟩
instance : TyOne Tryz.prog 48 := ⟨fun _ => by kernel_rfl, by kernel_rfl⟩
instance : TySl Tryz.prog 48 5 1 1 [.int .u8 0] := ⟨by kernel_rfl, by kernel_rfl, by decide, by decide⟩
instance : TyAgg Tryz.prog 63 10 := ⟨fun _ => by kernel_rfl, by kernel_rfl⟩
instance : Fld Tryz.prog 63 0 0 := Fld.of 0 (by kernel_rfl)
instance : Fld Tryz.prog 63 1 1 := Fld.of 0 (by kernel_rfl)
instance : Fld Tryz.prog 63 2 2 := Fld.of 0 (by kernel_rfl)
instance : Fld Tryz.prog 63 5 5 := Fld.of 0 (by kernel_rfl)
instance : Fld Tryz.prog 63 6 6 := Fld.of 0 (by kernel_rfl)
instance : Fld Tryz.prog 63 7 7 := Fld.of 0 (by kernel_rfl)
instance : TyStruct Tryz.prog 63 [(0, 1), (1, 1), (2, 1), (3, 1), (4, 1), (5, 1), (6, 1), (7, 1), (8, 1), (9, 1)] := ⟨by kernel_rfl⟩
instance : ZeroT Tryz.prog 63 [.int .i64 0, .int .i64 0, .int .i64 0, .int .i64 0, .int .i64 0, .int .i64 0, .int .i64 0, .bool false, .int .i64 0, .int .i64 0] := ⟨by kernel_rfl⟩
instance : TyAgg Tryz.prog 67 9 := ⟨fun _ => by kernel_rfl, by kernel_rfl⟩
instance : Fld Tryz.prog 67 0 0 := Fld.of 0 (by kernel_rfl)
instance : Fld Tryz.prog 67 1 1 := Fld.of 0 (by kernel_rfl)
instance : Fld Tryz.prog 67 2 2 := Fld.of 0 (by kernel_rfl)
instance : Fld Tryz.prog 67 3 3 := Fld.of 0 (by kernel_rfl)
instance : Fld Tryz.prog 67 4 4 := Fld.of 0 (by kernel_rfl)
instance : Fld Tryz.prog 67 5 5 := Fld.of 0 (by kernel_rfl)
instance : Fld Tryz.prog 67 6 6 := Fld.of 0 (by kernel_rfl)
instance : Fld Tryz.prog 67 7 7 := Fld.of 0 (by kernel_rfl)
instance : Fld Tryz.prog 67 8 8 := Fld.of 0 (by kernel_rfl)
instance : TyStruct Tryz.prog 67 [(0, 1), (1, 1), (2, 1), (3, 1), (4, 1), (5, 1), (6, 1), (7, 1), (8, 1)] := ⟨by kernel_rfl⟩
instance : ZeroT Tryz.prog 67 [.string ⟨#[]⟩, .bool false, .int .i64 0, .int .i64 0, .int .i64 0, .int .i64 0, .slice none 0 0, .slice none 0 0, .slice none 0 0] := ⟨by kernel_rfl⟩
instance : TyStruct Tryz.prog 106 [(0, 1), (1, 1), (2, 1), (3, 1), (4, 1)] := ⟨by kernel_rfl⟩
instance : ZeroT Tryz.prog 106 [.pointer none, .slice none 0 0, .slice none 0 0, .int .i64 0, .int .i64 0] := ⟨by kernel_rfl⟩
instance : TyAgg Tryz.prog 108 7 := ⟨fun _ => by kernel_rfl, by kernel_rfl⟩
instance : Fld Tryz.prog 108 0 0 := Fld.of 0 (by kernel_rfl)
instance : Fld Tryz.prog 108 1 1 := Fld.of 0 (by kernel_rfl)
instance : Fld Tryz.prog 108 2 2 := Fld.of 0 (by kernel_rfl)
instance : Fld Tryz.prog 108 3 3 := Fld.of 0 (by kernel_rfl)
instance : Fld Tryz.prog 108 4 4 := Fld.of 0 (by kernel_rfl)
instance : Fld Tryz.prog 108 5 5 := Fld.of 0 (by kernel_rfl)
instance : Fld Tryz.prog 108 6 6 := Fld.of 0 (by kernel_rfl)
instance : TyStruct Tryz.prog 108 [(0, 1), (1, 1), (2, 1), (3, 1), (4, 1), (5, 1), (6, 1)] := ⟨by kernel_rfl⟩
instance : ZeroT Tryz.prog 108 [.string ⟨#[]⟩, .bool false, .bool false, .bool false, .int .i64 0, .int .i64 0, .int .i64 0] := ⟨by kernel_rfl⟩
instance : TyAgg Tryz.prog 110 2 := ⟨fun _ => by kernel_rfl, by kernel_rfl⟩
instance : Fld Tryz.prog 110 0 0 := Fld.of 0 (by kernel_rfl)
instance : Fld Tryz.prog 110 1 1 := Fld.of 0 (by kernel_rfl)
instance : TyStruct Tryz.prog 110 [(0, 1), (1, 1)] := ⟨by kernel_rfl⟩
instance : ZeroT Tryz.prog 110 [.int .i64 0, .int .i64 0] := ⟨by kernel_rfl⟩
instance : TyAgg Tryz.prog 112 2 := ⟨fun _ => by kernel_rfl, by kernel_rfl⟩
instance : Fld Tryz.prog 112 0 0 := Fld.of 0 (by kernel_rfl)
instance : Fld Tryz.prog 112 1 1 := Fld.of 0 (by kernel_rfl)
instance : TyStruct Tryz.prog 112 [(0, 1), (1, 1)] := ⟨by kernel_rfl⟩
instance : ZeroT Tryz.prog 112 [.int .i64 0, .int .i64 0] := ⟨by kernel_rfl⟩
instance : TyOne Tryz.prog 113 := ⟨fun _ => by kernel_rfl, by kernel_rfl⟩
instance : TySl Tryz.prog 113 112 2 16 [.int .i64 0, .int .i64 0] := ⟨by kernel_rfl, by kernel_rfl, by decide, by decide⟩
instance : TyAgg Tryz.prog 115 2 := ⟨fun _ => by kernel_rfl, by kernel_rfl⟩
instance : Fld Tryz.prog 115 0 0 := Fld.of 0 (by kernel_rfl)
instance : Fld Tryz.prog 115 1 1 := Fld.of 0 (by kernel_rfl)
instance : TyStruct Tryz.prog 115 [(0, 1), (1, 1)] := ⟨by kernel_rfl⟩
instance : ZeroT Tryz.prog 115 [.string ⟨#[]⟩, .slice none 0 0] := ⟨by kernel_rfl⟩
instance : TyOne Tryz.prog 116 := ⟨fun _ => by kernel_rfl, by kernel_rfl⟩
instance : TyOne Tryz.prog 117 := ⟨fun _ => by kernel_rfl, by kernel_rfl⟩
instance : Fld Tryz.prog 119 0 0 := Fld.of 0 (by kernel_rfl)
instance : Fld Tryz.prog 119 1 1 := Fld.of 0 (by kernel_rfl)
instance : TyStruct Tryz.prog 119 [(0, 1), (1, 1)] := ⟨by kernel_rfl⟩
instance : ZeroT Tryz.prog 119 [.pointer none, .int .i64 0] := ⟨by kernel_rfl⟩
instance : TyOne Tryz.prog 120 := ⟨fun _ => by kernel_rfl, by kernel_rfl⟩
instance : TySl Tryz.prog 120 63 10 80 [.int .i64 0, .int .i64 0, .int .i64 0, .int .i64 0, .int .i64 0, .int .i64 0, .int .i64 0, .bool false, .int .i64 0, .int .i64 0] := ⟨by kernel_rfl, by kernel_rfl, by decide, by decide⟩
instance : TyOne Tryz.prog 121 := ⟨fun _ => by kernel_rfl, by kernel_rfl⟩
instance : TyMap Tryz.prog 121 3 34 := ⟨by kernel_rfl⟩
instance : Fld Tryz.prog 123 0 0 := Fld.of 1 (by kernel_rfl)
instance : Fld Tryz.prog 123 1 2 := Fld.of 0 (by kernel_rfl)
instance : Fld Tryz.prog 123 2 3 := Fld.of 0 (by kernel_rfl)
instance : Fld Tryz.prog 123 3 4 := Fld.of 0 (by kernel_rfl)
instance : Fld Tryz.prog 123 4 5 := Fld.of 0 (by kernel_rfl)
instance : TyStruct Tryz.prog 123 [(0, 2), (2, 1), (3, 1), (4, 1), (5, 1)] := ⟨by kernel_rfl⟩
instance : ZeroT Tryz.prog 123 [.pointer none, .int .i64 0, .slice none 0 0, .slice none 0 0, .map none, .int .i64 0] := ⟨by kernel_rfl⟩
instance : TyOne Tryz.prog 125 := ⟨fun _ => by kernel_rfl, by kernel_rfl⟩
instance : TyInt Tryz.prog 125 .u64 := ⟨by kernel_rfl⟩
instance : ZeroT Tryz.prog 125 [.int .u64 0] := ⟨by kernel_rfl⟩
instance : Fld Tryz.prog 128 0 0 := Fld.of 0 (by kernel_rfl)
instance : Fld Tryz.prog 128 1 1 := Fld.of 0 (by kernel_rfl)
instance : TyStruct Tryz.prog 128 [(0, 1), (1, 1)] := ⟨by kernel_rfl⟩
instance : ZeroT Tryz.prog 128 [.int .u64 0, .int .i64 0] := ⟨by kernel_rfl⟩
instance : TyOne Tryz.prog 135 := ⟨fun _ => by kernel_rfl, by kernel_rfl⟩
instance : TySl Tryz.prog 135 211 3 24 [.int .i64 0, .int .i64 0, .int .i64 0] := ⟨by kernel_rfl, by kernel_rfl, by decide, by decide⟩
instance : ZeroT Tryz.prog 135 [.slice none 0 0] := ⟨by kernel_rfl⟩
instance : TyAgg Tryz.prog 137 5 := ⟨fun _ => by kernel_rfl, by kernel_rfl⟩
instance : Fld Tryz.prog 137 0 0 := Fld.of 0 (by kernel_rfl)
instance : Fld Tryz.prog 137 1 1 := Fld.of 0 (by kernel_rfl)
instance : Fld Tryz.prog 137 2 2 := Fld.of 0 (by kernel_rfl)
instance : Fld Tryz.prog 137 3 3 := Fld.of 0 (by kernel_rfl)
instance : Fld Tryz.prog 137 4 4 := Fld.of 0 (by kernel_rfl)
instance : TyStruct Tryz.prog 137 [(0, 1), (1, 1), (2, 1), (3, 1), (4, 1)] := ⟨by kernel_rfl⟩
instance : ZeroT Tryz.prog 137 [.int .i64 0, .int .i64 0, .int .i64 0, .int .i64 0, .slice none 0 0] := ⟨by kernel_rfl⟩
instance : TyOne Tryz.prog 138 := ⟨fun _ => by kernel_rfl, by kernel_rfl⟩
instance : TySl Tryz.prog 138 137 5 56 [.int .i64 0, .int .i64 0, .int .i64 0, .int .i64 0, .slice none 0 0] := ⟨by kernel_rfl, by kernel_rfl, by decide, by decide⟩
instance : TyAgg Tryz.prog 140 7 := ⟨fun _ => by kernel_rfl, by kernel_rfl⟩
instance : Fld Tryz.prog 140 0 0 := Fld.of 0 (by kernel_rfl)
instance : Fld Tryz.prog 140 1 1 := Fld.of 0 (by kernel_rfl)
instance : Fld Tryz.prog 140 2 2 := Fld.of 0 (by kernel_rfl)
instance : Fld Tryz.prog 140 3 3 := Fld.of 0 (by kernel_rfl)
instance : Fld Tryz.prog 140 4 4 := Fld.of 0 (by kernel_rfl)
instance : Fld Tryz.prog 140 5 5 := Fld.of 0 (by kernel_rfl)
instance : Fld Tryz.prog 140 6 6 := Fld.of 0 (by kernel_rfl)
instance : TyStruct Tryz.prog 140 [(0, 1), (1, 1), (2, 1), (3, 1), (4, 1), (5, 1), (6, 1)] := ⟨by kernel_rfl⟩
instance : ZeroT Tryz.prog 140 [.int .i64 0, .int .i64 0, .int .i64 0, .int .i64 0, .int .i64 0, .int .i64 0, .slice none 0 0] := ⟨by kernel_rfl⟩
instance : TyOne Tryz.prog 145 := ⟨fun _ => by kernel_rfl, by kernel_rfl⟩
instance : TyOne Tryz.prog 146 := ⟨fun _ => by kernel_rfl, by kernel_rfl⟩
instance : TyMap Tryz.prog 146 158 135 := ⟨by kernel_rfl⟩
instance : TyOne Tryz.prog 147 := ⟨fun _ => by kernel_rfl, by kernel_rfl⟩
instance : TyMap Tryz.prog 147 3 3 := ⟨by kernel_rfl⟩
instance : TyOne Tryz.prog 148 := ⟨fun _ => by kernel_rfl, by kernel_rfl⟩
instance : TySl Tryz.prog 148 140 7 72 [.int .i64 0, .int .i64 0, .int .i64 0, .int .i64 0, .int .i64 0, .int .i64 0, .slice none 0 0] := ⟨by kernel_rfl, by kernel_rfl, by decide, by decide⟩
instance : TyOne Tryz.prog 149 := ⟨fun _ => by kernel_rfl, by kernel_rfl⟩
instance : TySl Tryz.prog 149 182 11 120 [.int .i64 0, .int .i64 0, .int .i64 0, .int .i64 0, .int .i64 0, .int .i64 0, .int .i64 0, .int .i64 0, .int .i64 0, .slice none 0 0, .slice none 0 0] := ⟨by kernel_rfl, by kernel_rfl, by decide, by decide⟩
instance : TyOne Tryz.prog 150 := ⟨fun _ => by kernel_rfl, by kernel_rfl⟩
instance : TyMap Tryz.prog 150 3 135 := ⟨by kernel_rfl⟩
instance : Fld Tryz.prog 152 0 0 := Fld.of 0 (by kernel_rfl)
instance : Fld Tryz.prog 152 1 1 := Fld.of 3 (by kernel_rfl)
instance : Fld Tryz.prog 152 2 5 := Fld.of 0 (by kernel_rfl)
instance : Fld Tryz.prog 152 3 6 := Fld.of 0 (by kernel_rfl)
instance : Fld Tryz.prog 152 4 7 := Fld.of 0 (by kernel_rfl)
instance : Fld Tryz.prog 152 5 8 := Fld.of 0 (by kernel_rfl)
instance : Fld Tryz.prog 152 6 9 := Fld.of 0 (by kernel_rfl)
instance : Fld Tryz.prog 152 7 10 := Fld.of 0 (by kernel_rfl)
instance : TyStruct Tryz.prog 152 [(0, 1), (1, 4), (5, 1), (6, 1), (7, 1), (8, 1), (9, 1), (10, 1)] := ⟨by kernel_rfl⟩
instance : ZeroT Tryz.prog 152 [.int .i64 0, .slice none 0 0, .slice none 0 0, .slice none 0 0, .slice none 0 0, .map none, .map none, .slice none 0 0, .slice none 0 0, .map none, .map none] := ⟨by kernel_rfl⟩
instance : TyAgg Tryz.prog 158 2 := ⟨fun _ => by kernel_rfl, by kernel_rfl⟩
instance : TyStruct Tryz.prog 158 [(0, 1), (1, 1)] := ⟨by kernel_rfl⟩
instance : ZeroT Tryz.prog 158 [.int .i64 0, .int .i64 0] := ⟨by kernel_rfl⟩
instance : TyStruct Tryz.prog 173 [(0, 1), (1, 4), (5, 1), (6, 1), (7, 1)] := ⟨by kernel_rfl⟩
instance : ZeroT Tryz.prog 173 [.int .i64 0, .slice none 0 0, .slice none 0 0, .slice none 0 0, .slice none 0 0, .slice none 0 0, .slice none 0 0, .slice none 0 0] := ⟨by kernel_rfl⟩
instance : TyAgg Tryz.prog 182 11 := ⟨fun _ => by kernel_rfl, by kernel_rfl⟩
instance : Fld Tryz.prog 182 0 0 := Fld.of 0 (by kernel_rfl)
instance : Fld Tryz.prog 182 2 2 := Fld.of 0 (by kernel_rfl)
instance : Fld Tryz.prog 182 8 8 := Fld.of 0 (by kernel_rfl)
instance : Fld Tryz.prog 182 10 10 := Fld.of 0 (by kernel_rfl)
instance : TyStruct Tryz.prog 182 [(0, 1), (1, 1), (2, 1), (3, 1), (4, 1), (5, 1), (6, 1), (7, 1), (8, 1), (9, 1), (10, 1)] := ⟨by kernel_rfl⟩
instance : ZeroT Tryz.prog 182 [.int .i64 0, .int .i64 0, .int .i64 0, .int .i64 0, .int .i64 0, .int .i64 0, .int .i64 0, .int .i64 0, .int .i64 0, .slice none 0 0, .slice none 0 0] := ⟨by kernel_rfl⟩
instance : TyInt Tryz.prog 195 .u64 := ⟨by kernel_rfl⟩
instance : Fld Tryz.prog 200 0 0 := Fld.of 0 (by kernel_rfl)
instance : Fld Tryz.prog 200 1 1 := Fld.of 6 (by kernel_rfl)
instance : Fld Tryz.prog 200 2 8 := Fld.of 0 (by kernel_rfl)
instance : Fld Tryz.prog 200 3 9 := Fld.of 0 (by kernel_rfl)
instance : Fld Tryz.prog 200 4 10 := Fld.of 0 (by kernel_rfl)
instance : Fld Tryz.prog 200 5 11 := Fld.of 0 (by kernel_rfl)
instance : Fld Tryz.prog 200 6 12 := Fld.of 0 (by kernel_rfl)
instance : Fld Tryz.prog 200 7 13 := Fld.of 0 (by kernel_rfl)
instance : TyStruct Tryz.prog 200 [(0, 1), (1, 7), (8, 1), (9, 1), (10, 1), (11, 1), (12, 1), (13, 1)] := ⟨by kernel_rfl⟩
instance : ZeroT Tryz.prog 200 [.pointer none, .int .i64 0, .int .i64 0, .int .i64 0, .int .i64 0, .int .i64 0, .int .i64 0, .slice none 0 0, .map none, .map none, .map none, .map none, .slice none 0 0, .slice none 0 0] := ⟨by kernel_rfl⟩
instance : TyAgg Tryz.prog 211 3 := ⟨fun _ => by kernel_rfl, by kernel_rfl⟩
instance : Fld Tryz.prog 211 0 0 := Fld.of 0 (by kernel_rfl)
instance : Fld Tryz.prog 211 1 1 := Fld.of 0 (by kernel_rfl)
instance : Fld Tryz.prog 211 2 2 := Fld.of 0 (by kernel_rfl)
instance : TyStruct Tryz.prog 211 [(0, 1), (1, 1), (2, 1)] := ⟨by kernel_rfl⟩
instance : ZeroT Tryz.prog 211 [.int .i64 0, .int .i64 0, .int .i64 0] := ⟨by kernel_rfl⟩
instance : TySl Tryz.prog 234 236 1 24 [.slice none 0 0] := ⟨by kernel_rfl, by kernel_rfl, by decide, by decide⟩
instance : TyOne Tryz.prog 236 := ⟨fun _ => by kernel_rfl, by kernel_rfl⟩
instance : TySl Tryz.prog 236 9 1 16 [.string ⟨#[]⟩] := ⟨by kernel_rfl, by kernel_rfl, by decide, by decide⟩
instance : TySl Tryz.prog 244 38 1 24 [.slice none 0 0] := ⟨by kernel_rfl, by kernel_rfl, by decide, by decide⟩
instance : TySl Tryz.prog 246 4 1 1 [.bool false] := ⟨by kernel_rfl, by kernel_rfl, by decide, by decide⟩
instance : TySl Tryz.prog 247 43 1 8 [.int .i64 0] := ⟨by kernel_rfl, by kernel_rfl, by decide, by decide⟩
instance : TyOne Tryz.prog 297 := ⟨fun _ => by kernel_rfl, by kernel_rfl⟩
instance : ZeroT Tryz.prog 297 [.nilFunc] := ⟨by kernel_rfl⟩
instance : TySl Tryz.prog 307 311 4 40 [.int .i64 0, .string ⟨#[]⟩, .int .i64 0, .int .i64 0] := ⟨by kernel_rfl, by kernel_rfl, by decide, by decide⟩
instance : TyAgg Tryz.prog 311 4 := ⟨fun _ => by kernel_rfl, by kernel_rfl⟩
instance : Fld Tryz.prog 311 0 0 := Fld.of 0 (by kernel_rfl)
instance : Fld Tryz.prog 311 1 1 := Fld.of 0 (by kernel_rfl)
instance : Fld Tryz.prog 311 2 2 := Fld.of 0 (by kernel_rfl)
instance : TyStruct Tryz.prog 311 [(0, 1), (1, 1), (2, 1), (3, 1)] := ⟨by kernel_rfl⟩
instance : ZeroT Tryz.prog 311 [.int .i64 0, .string ⟨#[]⟩, .int .i64 0, .int .i64 0] := ⟨by kernel_rfl⟩
instance : TyOne Tryz.prog 317 := ⟨fun _ => by kernel_rfl, by kernel_rfl⟩
instance : TyAgg Tryz.prog 319 4 := ⟨fun _ => by kernel_rfl, by kernel_rfl⟩
instance : Fld Tryz.prog 319 0 0 := Fld.of 0 (by kernel_rfl)
instance : Fld Tryz.prog 319 1 1 := Fld.of 0 (by kernel_rfl)
instance : Fld Tryz.prog 319 2 2 := Fld.of 0 (by kernel_rfl)
instance : Fld Tryz.prog 319 3 3 := Fld.of 0 (by kernel_rfl)
instance : TyStruct Tryz.prog 319 [(0, 1), (1, 1), (2, 1), (3, 1)] := ⟨by kernel_rfl⟩
instance : ZeroT Tryz.prog 319 [.nilFunc, .nilFunc, .bool false, .nilFunc] := ⟨by kernel_rfl⟩
instance : TyOne Tryz.prog 340 := ⟨fun _ => by kernel_rfl, by kernel_rfl⟩
instance : TySl Tryz.prog 340 343 4 40 [.int .i64 0, .string ⟨#[]⟩, .int .i64 0, .int .i64 0] := ⟨by kernel_rfl, by kernel_rfl, by decide, by decide⟩
instance : ZeroT Tryz.prog 340 [.slice none 0 0] := ⟨by kernel_rfl⟩
instance : TyAgg Tryz.prog 343 4 := ⟨fun _ => by kernel_rfl, by kernel_rfl⟩
instance : Fld Tryz.prog 343 0 0 := Fld.of 0 (by kernel_rfl)
instance : Fld Tryz.prog 343 1 1 := Fld.of 0 (by kernel_rfl)
instance : TyStruct Tryz.prog 343 [(0, 1), (1, 1), (2, 1), (3, 1)] := ⟨by kernel_rfl⟩
instance : ZeroT Tryz.prog 343 [.int .i64 0, .string ⟨#[]⟩, .int .i64 0, .int .i64 0] := ⟨by kernel_rfl⟩
instance : TyOne Tryz.prog 370 := ⟨fun _ => by kernel_rfl, by kernel_rfl⟩
instance : TySl Tryz.prog 370 125 1 8 [.int .u64 0] := ⟨by kernel_rfl, by kernel_rfl, by decide, by decide⟩
instance : ZeroT Tryz.prog 370 [.slice none 0 0] := ⟨by kernel_rfl⟩
theorem en3 : Enters Tryz.prog 3 := fun _ _ => by kernel_rfl
theorem en10 : Enters Tryz.prog 10 := fun _ _ => by kernel_rfl
theorem en11 : Enters Tryz.prog 11 := fun _ _ => by kernel_rfl
theorem en12 : Enters Tryz.prog 12 := fun _ _ => by kernel_rfl
theorem en13 : Enters Tryz.prog 13 := fun _ _ => by kernel_rfl
theorem en14 : Enters Tryz.prog 14 := fun _ _ => by kernel_rfl
theorem en15 : Enters Tryz.prog 15 := fun _ _ => by kernel_rfl
theorem en16 : Enters Tryz.prog 16 := fun _ _ => by kernel_rfl
theorem en17 : Enters Tryz.prog 17 := fun _ _ => by kernel_rfl
theorem en18 : Enters Tryz.prog 18 := fun _ _ => by kernel_rfl
theorem en19 : Enters Tryz.prog 19 := fun _ _ => by kernel_rfl
theorem en20 : Enters Tryz.prog 20 := fun _ _ => by kernel_rfl
theorem en21 : Enters Tryz.prog 21 := fun _ _ => by kernel_rfl
theorem en22 : Enters Tryz.prog 22 := fun _ _ => by kernel_rfl
theorem en25 : Enters Tryz.prog 25 := fun _ _ => by kernel_rfl
theorem en27 : Enters Tryz.prog 27 := fun _ _ => by kernel_rfl
theorem en33 : Enters Tryz.prog 33 := fun _ _ => by kernel_rfl
theorem en35 : Enters Tryz.prog 35 := fun _ _ => by kernel_rfl
theorem en41 : Enters Tryz.prog 41 := fun _ _ => by kernel_rfl
theorem en42 : Enters Tryz.prog 42 := fun _ _ => by kernel_rfl
theorem en43 : Enters Tryz.prog 43 := fun _ _ => by kernel_rfl
theorem en44 : Enters Tryz.prog 44 := fun _ _ => by kernel_rfl
theorem en46 : Enters Tryz.prog 46 := fun _ _ => by kernel_rfl
theorem en47 : Enters Tryz.prog 47 := fun _ _ => by kernel_rfl
theorem en48 : Enters Tryz.prog 48 := fun _ _ => by kernel_rfl
theorem en49 : Enters Tryz.prog 49 := fun _ _ => by kernel_rfl
theorem en50 : Enters Tryz.prog 50 := fun _ _ => by kernel_rfl
theorem en51 : Enters Tryz.prog 51 := fun _ _ => by kernel_rfl
theorem en52 : Enters Tryz.prog 52 := fun _ _ => by kernel_rfl
theorem en53 : Enters Tryz.prog 53 := fun _ _ => by kernel_rfl
theorem en54 : Enters Tryz.prog 54 := fun _ _ => by kernel_rfl
theorem en55 : Enters Tryz.prog 55 := fun _ _ => by kernel_rfl
theorem en56 : Enters Tryz.prog 56 := fun _ _ => by kernel_rfl
theorem en57 : Enters Tryz.prog 57 := fun _ _ => by kernel_rfl
theorem en58 : Enters Tryz.prog 58 := fun _ _ => by kernel_rfl
theorem en59 : Enters Tryz.prog 59 := fun _ _ => by kernel_rfl
theorem en60 : Enters Tryz.prog 60 := fun _ _ => by kernel_rfl
theorem en61 : Enters Tryz.prog 61 := fun _ _ => by kernel_rfl
theorem en62 : Enters Tryz.prog 62 := fun _ _ => by kernel_rfl
theorem en63 : Enters Tryz.prog 63 := fun _ _ => by kernel_rfl
theorem en64 : Enters Tryz.prog 64 := fun _ _ => by kernel_rfl
theorem en65 : Enters Tryz.prog 65 := fun _ _ => by kernel_rfl
theorem en67 : Enters Tryz.prog 67 := fun _ _ => by kernel_rfl
theorem en68 : Enters Tryz.prog 68 := fun _ _ => by kernel_rfl
theorem en70 : Enters Tryz.prog 70 := fun _ _ => by kernel_rfl
theorem en71 : Enters Tryz.prog 71 := fun _ _ => by kernel_rfl
theorem en74 : Enters Tryz.prog 74 := fun _ _ => by kernel_rfl
theorem en77 : Enters Tryz.prog 77 := fun _ _ => by kernel_rfl
theorem en78 : Enters Tryz.prog 78 := fun _ _ => by kernel_rfl
theorem en79 : Enters Tryz.prog 79 := fun _ _ => by kernel_rfl
theorem en93 : Enters Tryz.prog 93 := fun _ _ => by kernel_rfl
theorem en94 : Enters Tryz.prog 94 := fun _ _ => by kernel_rfl
theorem en95 : Enters Tryz.prog 95 := fun _ _ => by kernel_rfl
theorem en96 : Enters Tryz.prog 96 := fun _ _ => by kernel_rfl
theorem en97 : Enters Tryz.prog 97 := fun _ _ => by kernel_rfl
theorem en98 : Enters Tryz.prog 98 := fun _ _ => by kernel_rfl
theorem en99 : Enters Tryz.prog 99 := fun _ _ => by kernel_rfl
theorem en100 : Enters Tryz.prog 100 := fun _ _ => by kernel_rfl
theorem en101 : Enters Tryz.prog 101 := fun _ _ => by kernel_rfl
theorem en102 : Enters Tryz.prog 102 := fun _ _ => by kernel_rfl
theorem en103 : Enters Tryz.prog 103 := fun _ _ => by kernel_rfl
theorem en105 : Enters Tryz.prog 105 := fun _ _ => by kernel_rfl
theorem en106 : Enters Tryz.prog 106 := fun _ _ => by kernel_rfl
theorem en107 : Enters Tryz.prog 107 := fun _ _ => by kernel_rfl
theorem en108 : Enters Tryz.prog 108 := fun _ _ => by kernel_rfl
theorem en109 : Enters Tryz.prog 109 := fun _ _ => by kernel_rfl
theorem en110 : Enters Tryz.prog 110 := fun _ _ => by kernel_rfl
theorem en111 : Enters Tryz.prog 111 := fun _ _ => by kernel_rfl
theorem en112 : Enters Tryz.prog 112 := fun _ _ => by kernel_rfl
theorem en113 : Enters Tryz.prog 113 := fun _ _ => by kernel_rfl
theorem en116 : Enters Tryz.prog 116 := fun _ _ => by kernel_rfl
theorem en121 : Enters Tryz.prog 121 := fun _ _ => by kernel_rfl
theorem en122 : Enters Tryz.prog 122 := fun _ _ => by kernel_rfl
theorem en137 : Enters Tryz.prog 137 := fun _ _ => by kernel_rfl
theorem en138 : Enters Tryz.prog 138 := fun _ _ => by kernel_rfl
theorem en139 : Enters Tryz.prog 139 := fun _ _ => by kernel_rfl
theorem en140 : Enters Tryz.prog 140 := fun _ _ => by kernel_rfl
theorem en141 : Enters Tryz.prog 141 := fun _ _ => by kernel_rfl
theorem en142 : Enters Tryz.prog 142 := fun _ _ => by kernel_rfl
theorem en143 : Enters Tryz.prog 143 := fun _ _ => by kernel_rfl
theorem en144 : Enters Tryz.prog 144 := fun _ _ => by kernel_rfl
theorem en145 : Enters Tryz.prog 145 := fun _ _ => by kernel_rfl
theorem en146 : Enters Tryz.prog 146 := fun _ _ => by kernel_rfl
theorem en147 : Enters Tryz.prog 147 := fun _ _ => by kernel_rfl
theorem en148 : Enters Tryz.prog 148 := fun _ _ => by kernel_rfl
theorem en150 : Enters Tryz.prog 150 := fun _ _ => by kernel_rfl
theorem en151 : Enters Tryz.prog 151 := fun _ _ => by kernel_rfl
theorem en152 : Enters Tryz.prog 152 := fun _ _ => by kernel_rfl
theorem en153 : Enters Tryz.prog 153 := fun _ _ => by kernel_rfl
theorem en154 : Enters Tryz.prog 154 := fun _ _ => by kernel_rfl
theorem en155 : Enters Tryz.prog 155 := fun _ _ => by kernel_rfl
theorem en156 : Enters Tryz.prog 156 := fun _ _ => by kernel_rfl
theorem en157 : Enters Tryz.prog 157 := fun _ _ => by kernel_rfl
theorem en158 : Enters Tryz.prog 158 := fun _ _ => by kernel_rfl
theorem en159 : Enters Tryz.prog 159 := fun _ _ => by kernel_rfl
theorem en160 : Enters Tryz.prog 160 := fun _ _ => by kernel_rfl
theorem en161 : Enters Tryz.prog 161 := fun _ _ => by kernel_rfl
theorem en162 : Enters Tryz.prog 162 := fun _ _ => by kernel_rfl
theorem en163 : Enters Tryz.prog 163 := fun _ _ => by kernel_rfl
theorem en164 : Enters Tryz.prog 164 := fun _ _ => by kernel_rfl
theorem en165 : Enters Tryz.prog 165 := fun _ _ => by kernel_rfl
theorem en175 : Enters Tryz.prog 175 := fun _ _ => by kernel_rfl
theorem en185 : Enters Tryz.prog 185 := fun _ _ => by kernel_rfl
theorem en198 : Enters Tryz.prog 198 := fun _ _ => by kernel_rfl
theorem en200 : Enters Tryz.prog 200 := fun _ _ => by kernel_rfl
theorem en201 : Enters Tryz.prog 201 := fun _ _ => by kernel_rfl
theorem en202 : Enters Tryz.prog 202 := fun _ _ => by kernel_rfl
theorem en203 : Enters Tryz.prog 203 := fun _ _ => by kernel_rfl
theorem en204 : Enters Tryz.prog 204 := fun _ _ => by kernel_rfl
theorem en205 : Enters Tryz.prog 205 := fun _ _ => by kernel_rfl
theorem en206 : Enters Tryz.prog 206 := fun _ _ => by kernel_rfl
theorem en207 : Enters Tryz.prog 207 := fun _ _ => by kernel_rfl
theorem en208 : Enters Tryz.prog 208 := fun _ _ => by kernel_rfl
theorem en209 : Enters Tryz.prog 209 := fun _ _ => by kernel_rfl
theorem en210 : Enters Tryz.prog 210 := fun _ _ => by kernel_rfl
theorem en211 : Enters Tryz.prog 211 := fun _ _ => by kernel_rfl
theorem en212 : Enters Tryz.prog 212 := fun _ _ => by kernel_rfl
theorem en213 : Enters Tryz.prog 213 := fun _ _ => by kernel_rfl
theorem en214 : Enters Tryz.prog 214 := fun _ _ => by kernel_rfl
theorem en215 : Enters Tryz.prog 215 := fun _ _ => by kernel_rfl
theorem en216 : Enters Tryz.prog 216 := fun _ _ => by kernel_rfl
theorem en217 : Enters Tryz.prog 217 := fun _ _ => by kernel_rfl
theorem en218 : Enters Tryz.prog 218 := fun _ _ => by kernel_rfl
theorem en219 : Enters Tryz.prog 219 := fun _ _ => by kernel_rfl
theorem en220 : Enters Tryz.prog 220 := fun _ _ => by kernel_rfl
theorem en221 : Enters Tryz.prog 221 := fun _ _ => by kernel_rfl
theorem en222 : Enters Tryz.prog 222 := fun _ _ => by kernel_rfl
theorem en223 : Enters Tryz.prog 223 := fun _ _ => by kernel_rfl
theorem en224 : Enters Tryz.prog 224 := fun _ _ => by kernel_rfl
theorem en225 : Enters Tryz.prog 225 := fun _ _ => by kernel_rfl
theorem en226 : Enters Tryz.prog 226 := fun _ _ => by kernel_rfl
theorem en227 : Enters Tryz.prog 227 := fun _ _ => by kernel_rfl
theorem en228 : Enters Tryz.prog 228 := fun _ _ => by kernel_rfl
theorem en229 : Enters Tryz.prog 229 := fun _ _ => by kernel_rfl
theorem en230 : Enters Tryz.prog 230 := fun _ _ => by kernel_rfl
theorem en231 : Enters Tryz.prog 231 := fun _ _ => by kernel_rfl
theorem en232 : Enters Tryz.prog 232 := fun _ _ => by kernel_rfl
theorem en233 : Enters Tryz.prog 233 := fun _ _ => by kernel_rfl
theorem en234 : Enters Tryz.prog 234 := fun _ _ => by kernel_rfl
theorem en235 : Enters Tryz.prog 235 := fun _ _ => by kernel_rfl
theorem en236 : Enters Tryz.prog 236 := fun _ _ => by kernel_rfl
theorem en237 : Enters Tryz.prog 237 := fun _ _ => by kernel_rfl
theorem en238 : Enters Tryz.prog 238 := fun _ _ => by kernel_rfl
theorem en239 : Enters Tryz.prog 239 := fun _ _ => by kernel_rfl
theorem en240 : Enters Tryz.prog 240 := fun _ _ => by kernel_rfl
theorem en241 : Enters Tryz.prog 241 := fun _ _ => by kernel_rfl
theorem en242 : Enters Tryz.prog 242 := fun _ _ => by kernel_rfl
theorem en243 : Enters Tryz.prog 243 := fun _ _ => by kernel_rfl
theorem en244 : Enters Tryz.prog 244 := fun _ _ => by kernel_rfl
theorem en245 : Enters Tryz.prog 245 := fun _ _ => by kernel_rfl
theorem en249 : Enters Tryz.prog 249 := fun _ _ => by kernel_rfl
theorem en250 : Enters Tryz.prog 250 := fun _ _ => by kernel_rfl
theorem en251 : Enters Tryz.prog 251 := fun _ _ => by kernel_rfl
theorem en252 : Enters Tryz.prog 252 := fun _ _ => by kernel_rfl
theorem en253 : Enters Tryz.prog 253 := fun _ _ => by kernel_rfl
theorem en254 : Enters Tryz.prog 254 := fun _ _ => by kernel_rfl
theorem en255 : Enters Tryz.prog 255 := fun _ _ => by kernel_rfl
theorem en256 : Enters Tryz.prog 256 := fun _ _ => by kernel_rfl
theorem en275 : Enters Tryz.prog 275 := fun _ _ => by kernel_rfl
theorem en276 : Enters Tryz.prog 276 := fun _ _ => by kernel_rfl
theorem en277 : Enters Tryz.prog 277 := fun _ _ => by kernel_rfl
theorem en278 : Enters Tryz.prog 278 := fun _ _ => by kernel_rfl
theorem en279 : Enters Tryz.prog 279 := fun _ _ => by kernel_rfl
theorem en280 : Enters Tryz.prog 280 := fun _ _ => by kernel_rfl
theorem en281 : Enters Tryz.prog 281 := fun _ _ => by kernel_rfl
theorem en287 : Enters Tryz.prog 287 := fun _ _ => by kernel_rfl
theorem en288 : Enters Tryz.prog 288 := fun _ _ => by kernel_rfl
theorem en289 : Enters Tryz.prog 289 := fun _ _ => by kernel_rfl
theorem en290 : Enters Tryz.prog 290 := fun _ _ => by kernel_rfl
theorem en291 : Enters Tryz.prog 291 := fun _ _ => by kernel_rfl
theorem en293 : Enters Tryz.prog 293 := fun _ _ => by kernel_rfl
theorem en294 : Enters Tryz.prog 294 := fun _ _ => by kernel_rfl
theorem en296 : Enters Tryz.prog 296 := fun _ _ => by kernel_rfl
theorem en299 : Enters Tryz.prog 299 := fun _ _ => by kernel_rfl
theorem en300 : Enters Tryz.prog 300 := fun _ _ => by kernel_rfl
theorem en310 : Enters Tryz.prog 310 := fun _ _ => by kernel_rfl
theorem en313 : Enters Tryz.prog 313 := fun _ _ => by kernel_rfl
theorem en316 : Enters Tryz.prog 316 := fun _ _ => by kernel_rfl
theorem en322 : Enters Tryz.prog 322 := fun _ _ => by kernel_rfl
theorem en326 : Enters Tryz.prog 326 := fun _ _ => by kernel_rfl
theorem en327 : Enters Tryz.prog 327 := fun _ _ => by kernel_rfl
theorem en328 : Enters Tryz.prog 328 := fun _ _ => by kernel_rfl
theorem en330 : Enters Tryz.prog 330 := fun _ _ => by kernel_rfl
theorem en331 : Enters Tryz.prog 331 := fun _ _ => by kernel_rfl
theorem en332 : Enters Tryz.prog 332 := fun _ _ => by kernel_rfl
theorem en333 : Enters Tryz.prog 333 := fun _ _ => by kernel_rfl
theorem en339 : Enters Tryz.prog 339 := fun _ _ => by kernel_rfl
theorem en349 : Enters Tryz.prog 349 := fun _ _ => by kernel_rfl
theorem en350 : Enters Tryz.prog 350 := fun _ _ => by kernel_rfl
theorem en351 : Enters Tryz.prog 351 := fun _ _ => by kernel_rfl
theorem en352 : Enters Tryz.prog 352 := fun _ _ => by kernel_rfl
theorem en353 : Enters Tryz.prog 353 := fun _ _ => by kernel_rfl
theorem en354 : Enters Tryz.prog 354 := fun _ _ => by kernel_rfl
theorem en361 : Enters Tryz.prog 361 := fun _ _ => by kernel_rfl
theorem en362 : Enters Tryz.prog 362 := fun _ _ => by kernel_rfl
theorem en363 : Enters Tryz.prog 363 := fun _ _ => by kernel_rfl
theorem en364 : Enters Tryz.prog 364 := fun _ _ => by kernel_rfl
theorem en365 : Enters Tryz.prog 365 := fun _ _ => by kernel_rfl
theorem en368 : Enters Tryz.prog 368 := fun _ _ => by kernel_rfl
theorem mixed : Tryz.prog.follows .mixedOrders = true := by kernel_rfl
end Go.Proofs.YtfmgkkofledkbaaGreatDoor
