/- Facts on the tables of the types of this program, each computed by the kernel. -/
import Derived.Test.YtclgjkeeaopppaaGreatDoorV7
import Derived.Test.YtclgjkeeaopppaaGreatDoorProg
import Derived.KernelRfl
namespace Go.Proofs.YtclgjkeeaopppaaGreatDoor
open Go.V
instance : TyOne Tryz.prog 1 := ⟨fun _ => by kernel_rfl, by kernel_rfl⟩
instance : ZeroT Tryz.prog 1 [.nilFunc] := ⟨by kernel_rfl⟩
instance : TyOne Tryz.prog 2 := ⟨fun _ => by kernel_rfl, by kernel_rfl⟩
instance : TyInt Tryz.prog 2 .i64 := ⟨by kernel_rfl⟩
instance : ZeroT Tryz.prog 2 [.int .i64 0] := ⟨by kernel_rfl⟩
instance : TyOne Tryz.prog 3 := ⟨fun _ => by kernel_rfl, by kernel_rfl⟩
instance : TyInt Tryz.prog 3 .i64 := ⟨by kernel_rfl⟩
instance : ZeroT Tryz.prog 3 [.int .i64 0] := ⟨by kernel_rfl⟩
instance : TyOne Tryz.prog 4 := ⟨fun _ => by kernel_rfl, by kernel_rfl⟩
instance : TyBool Tryz.prog 4 := ⟨by kernel_rfl⟩
instance : ZeroT Tryz.prog 4 [.bool false] := ⟨by kernel_rfl⟩
instance : TyOne Tryz.prog 5 := ⟨fun _ => by kernel_rfl, by kernel_rfl⟩
instance : TyInt Tryz.prog 5 .u8 := ⟨by kernel_rfl⟩
instance : ZeroT Tryz.prog 5 [.int .u8 0] := ⟨by kernel_rfl⟩
instance : TyOne Tryz.prog 6 := ⟨fun _ => by kernel_rfl, by kernel_rfl⟩
instance : TyInt Tryz.prog 6 .u8 := ⟨by kernel_rfl⟩
instance : ZeroT Tryz.prog 6 [.int .u8 0] := ⟨by kernel_rfl⟩
instance : TyAgg Tryz.prog 7 4 := ⟨fun _ => by kernel_rfl, by kernel_rfl⟩
instance : Fld Tryz.prog 7 0 0 := Fld.of 0 (by kernel_rfl)
instance : Fld Tryz.prog 7 1 1 := Fld.of 0 (by kernel_rfl)
instance : Fld Tryz.prog 7 2 2 := Fld.of 0 (by kernel_rfl)
instance : Fld Tryz.prog 7 3 3 := Fld.of 0 (by kernel_rfl)
instance : TyStruct Tryz.prog 7 [(0, 1), (1, 1), (2, 1), (3, 1)] := ⟨by kernel_rfl⟩
instance : ZeroT Tryz.prog 7 [.int .i64 0, .int .i64 0, .bool false, .int .u8 0] := ⟨by kernel_rfl⟩
instance : TyAgg Tryz.prog 8 4 := ⟨fun _ => by kernel_rfl, by kernel_rfl⟩
instance : Fld Tryz.prog 8 0 0 := Fld.of 0 (by kernel_rfl)
instance : Fld Tryz.prog 8 1 1 := Fld.of 0 (by kernel_rfl)
instance : Fld Tryz.prog 8 2 2 := Fld.of 0 (by kernel_rfl)
instance : Fld Tryz.prog 8 3 3 := Fld.of 0 (by kernel_rfl)
instance : TyStruct Tryz.prog 8 [(0, 1), (1, 1), (2, 1), (3, 1)] := ⟨by kernel_rfl⟩
instance : ZeroT Tryz.prog 8 [.int .i64 0, .int .i64 0, .bool false, .int .u8 0] := ⟨by kernel_rfl⟩
instance : TyOne Tryz.prog 9 := ⟨fun _ => by kernel_rfl, by kernel_rfl⟩
instance : TyStr Tryz.prog 9 := ⟨by kernel_rfl⟩
instance : ZeroT Tryz.prog 9 [.string ⟨#[]⟩] := ⟨by kernel_rfl⟩
instance : TyOne Tryz.prog 10 := ⟨fun _ => by kernel_rfl, by kernel_rfl⟩
instance : TyStr Tryz.prog 10 := ⟨by kernel_rfl⟩
instance : ZeroT Tryz.prog 10 [.string ⟨#[]⟩] := ⟨by kernel_rfl⟩
instance : TyOne Tryz.prog 11 := ⟨fun _ => by kernel_rfl, by kernel_rfl⟩
instance : TyStr Tryz.prog 11 := ⟨by kernel_rfl⟩
instance : ZeroT Tryz.prog 11 [.string ⟨#[]⟩] := ⟨by kernel_rfl⟩
instance : TyOne Tryz.prog 12 := ⟨fun _ => by kernel_rfl, by kernel_rfl⟩
instance : TyInt Tryz.prog 12 .u64 := ⟨by kernel_rfl⟩
instance : ZeroT Tryz.prog 12 [.int .u64 0] := ⟨by kernel_rfl⟩
instance : TyAgg Tryz.prog 13 2 := ⟨fun _ => by kernel_rfl, by kernel_rfl⟩
instance : Fld Tryz.prog 13 0 0 := Fld.of 0 (by kernel_rfl)
instance : Fld Tryz.prog 13 1 1 := Fld.of 0 (by kernel_rfl)
instance : TyStruct Tryz.prog 13 [(0, 1), (1, 1)] := ⟨by kernel_rfl⟩
instance : ZeroT Tryz.prog 13 [.string ⟨#[]⟩, .int .u64 0] := ⟨by kernel_rfl⟩
instance : TyAgg Tryz.prog 14 2 := ⟨fun _ => by kernel_rfl, by kernel_rfl⟩
instance : Fld Tryz.prog 14 0 0 := Fld.of 0 (by kernel_rfl)
instance : Fld Tryz.prog 14 1 1 := Fld.of 0 (by kernel_rfl)
instance : TyStruct Tryz.prog 14 [(0, 1), (1, 1)] := ⟨by kernel_rfl⟩
instance : ZeroT Tryz.prog 14 [.string ⟨#[]⟩, .int .u64 0] := ⟨by kernel_rfl⟩
instance : TyOne Tryz.prog 15 := ⟨fun _ => by kernel_rfl, by kernel_rfl⟩
instance : TyPtr Tryz.prog 15 := ⟨⟨312, by kernel_rfl⟩⟩
instance : ZeroT Tryz.prog 15 [.pointer none] := ⟨by kernel_rfl⟩
instance : TyOne Tryz.prog 16 := ⟨fun _ => by kernel_rfl, by kernel_rfl⟩
instance : TyPtr Tryz.prog 16 := ⟨⟨315, by kernel_rfl⟩⟩
instance : ZeroT Tryz.prog 16 [.pointer none] := ⟨by kernel_rfl⟩
instance : TyOne Tryz.prog 17 := ⟨fun _ => by kernel_rfl, by kernel_rfl⟩
instance : TyPtr Tryz.prog 17 := ⟨⟨323, by kernel_rfl⟩⟩
instance : ZeroT Tryz.prog 17 [.pointer none] := ⟨by kernel_rfl⟩
instance : TyAgg Tryz.prog 18 1 := ⟨fun _ => by kernel_rfl, by kernel_rfl⟩
instance : Fld Tryz.prog 18 0 0 := Fld.of 0 (by kernel_rfl)
instance : TyStruct Tryz.prog 18 [(0, 1)] := ⟨by kernel_rfl⟩
instance : ZeroT Tryz.prog 18 [.pointer none] := ⟨by kernel_rfl⟩
instance : TyAgg Tryz.prog 19 1 := ⟨fun _ => by kernel_rfl, by kernel_rfl⟩
instance : Fld Tryz.prog 19 0 0 := Fld.of 0 (by kernel_rfl)
instance : TyStruct Tryz.prog 19 [(0, 1)] := ⟨by kernel_rfl⟩
instance : ZeroT Tryz.prog 19 [.pointer none] := ⟨by kernel_rfl⟩
instance : TyOne Tryz.prog 20 := ⟨fun _ => by kernel_rfl, by kernel_rfl⟩
instance : ZeroT Tryz.prog 20 [.nilIface] := ⟨by kernel_rfl⟩
instance : TyOne Tryz.prog 21 := ⟨fun _ => by kernel_rfl, by kernel_rfl⟩
instance : TyInt Tryz.prog 21 .i32 := ⟨by kernel_rfl⟩
instance : ZeroT Tryz.prog 21 [.int .i32 0] := ⟨by kernel_rfl⟩
instance : TyOne Tryz.prog 22 := ⟨fun _ => by kernel_rfl, by kernel_rfl⟩
instance : TySl Tryz.prog 22 3 1 8 [.int .i64 0] := ⟨by kernel_rfl, by kernel_rfl, by decide, by decide⟩
instance : ZeroT Tryz.prog 22 [.slice none 0 0] := ⟨by kernel_rfl⟩
instance : TyOne Tryz.prog 23 := ⟨fun _ => by kernel_rfl, by kernel_rfl⟩
instance : TySl Tryz.prog 23 83 2 16 [.int .i64 0, .int .i64 0] := ⟨by kernel_rfl, by kernel_rfl, by decide, by decide⟩
instance : ZeroT Tryz.prog 23 [.slice none 0 0] := ⟨by kernel_rfl⟩
instance : TyOne Tryz.prog 24 := ⟨fun _ => by kernel_rfl, by kernel_rfl⟩
instance : ZeroT Tryz.prog 24 [.nilFunc] := ⟨by kernel_rfl⟩
instance : TyOne Tryz.prog 25 := ⟨fun _ => by kernel_rfl, by kernel_rfl⟩
instance : ZeroT Tryz.prog 25 [.nilFunc] := ⟨by kernel_rfl⟩
instance : TyOne Tryz.prog 26 := ⟨fun _ => by kernel_rfl, by kernel_rfl⟩
instance : ZeroT Tryz.prog 26 [.nilFunc] := ⟨by kernel_rfl⟩
instance : TyOne Tryz.prog 27 := ⟨fun _ => by kernel_rfl, by kernel_rfl⟩
instance : TySl Tryz.prog 27 23 1 24 [.slice none 0 0] := ⟨by kernel_rfl, by kernel_rfl, by decide, by decide⟩
instance : ZeroT Tryz.prog 27 [.slice none 0 0] := ⟨by kernel_rfl⟩
instance : TyOne Tryz.prog 28 := ⟨fun _ => by kernel_rfl, by kernel_rfl⟩
instance : TyInt Tryz.prog 28 .i64 := ⟨by kernel_rfl⟩
instance : ZeroT Tryz.prog 28 [.int .i64 0] := ⟨by kernel_rfl⟩
instance : TyOne Tryz.prog 29 := ⟨fun _ => by kernel_rfl, by kernel_rfl⟩
instance : ZeroT Tryz.prog 29 [.nilFunc] := ⟨by kernel_rfl⟩
instance : TyOne Tryz.prog 30 := ⟨fun _ => by kernel_rfl, by kernel_rfl⟩
instance : TySl Tryz.prog 30 84 2 16 [.int .i64 0, .int .i64 0] := ⟨by kernel_rfl, by kernel_rfl, by decide, by decide⟩
instance : ZeroT Tryz.prog 30 [.slice none 0 0] := ⟨by kernel_rfl⟩
instance : TyOne Tryz.prog 31 := ⟨fun _ => by kernel_rfl, by kernel_rfl⟩
instance : ZeroT Tryz.prog 31 [.nilFunc] := ⟨by kernel_rfl⟩
instance : TyOne Tryz.prog 32 := ⟨fun _ => by kernel_rfl, by kernel_rfl⟩
instance : ZeroT Tryz.prog 32 [.nilFunc] := ⟨by kernel_rfl⟩
instance : TyOne Tryz.prog 34 := ⟨fun _ => by kernel_rfl, by kernel_rfl⟩
instance : ZeroT Tryz.prog 34 [.nilFunc] := ⟨by kernel_rfl⟩
instance : TyOne Tryz.prog 35 := ⟨fun _ => by kernel_rfl, by kernel_rfl⟩
instance : ZeroT Tryz.prog 35 [.nilFunc] := ⟨by kernel_rfl⟩
instance : TyOne Tryz.prog 36 := ⟨fun _ => by kernel_rfl, by kernel_rfl⟩
instance : ZeroT Tryz.prog 36 [.nilFunc] := ⟨by kernel_rfl⟩
instance : TyOne Tryz.prog 37 := ⟨fun _ => by kernel_rfl, by kernel_rfl⟩
instance : ZeroT Tryz.prog 37 [.nilFunc] := ⟨by kernel_rfl⟩
instance : TyAgg Tryz.prog 38 2 := ⟨fun _ => by kernel_rfl, by kernel_rfl⟩
instance : ZeroT Tryz.prog 38 [.int .i64 0, .int .i64 0] := ⟨by kernel_rfl⟩
instance : TyOne Tryz.prog 39 := ⟨fun _ => by kernel_rfl, by kernel_rfl⟩
instance : TySl Tryz.prog 39 38 2 16 [.int .i64 0, .int .i64 0] := ⟨by kernel_rfl, by kernel_rfl, by decide, by decide⟩
instance : ZeroT Tryz.prog 39 [.slice none 0 0] := ⟨by kernel_rfl⟩
instance : TyOne Tryz.prog 41 := ⟨fun _ => by kernel_rfl, by kernel_rfl⟩
instance : ZeroT Tryz.prog 41 [.nilFunc] := ⟨by kernel_rfl⟩
instance : TyOne Tryz.prog 42 := ⟨fun _ => by kernel_rfl, by kernel_rfl⟩
instance : ZeroT Tryz.prog 42 [.nilFunc] := ⟨by kernel_rfl⟩
instance : TyOne Tryz.prog 43 := ⟨fun _ => by kernel_rfl, by kernel_rfl⟩
instance : ZeroT Tryz.prog 43 [.nilFunc] := ⟨by kernel_rfl⟩
instance : TyOne Tryz.prog 44 := ⟨fun _ => by kernel_rfl, by kernel_rfl⟩
instance : ZeroT Tryz.prog 44 [.nilFunc] := ⟨by kernel_rfl⟩
instance : TyOne Tryz.prog 45 := ⟨fun _ => by kernel_rfl, by kernel_rfl⟩
instance : ZeroT Tryz.prog 45 [.nilFunc] := ⟨by kernel_rfl⟩
instance : TyOne Tryz.prog 46 := ⟨fun _ => by kernel_rfl, by kernel_rfl⟩
instance : ZeroT Tryz.prog 46 [.nilFunc] := ⟨by kernel_rfl⟩
instance : TyOne Tryz.prog 47 := ⟨fun _ => by kernel_rfl, by kernel_rfl⟩
instance : ZeroT Tryz.prog 47 [.nilFunc] := ⟨by kernel_rfl⟩
instance : TyOne Tryz.prog 48 := ⟨fun _ => by kernel_rfl, by kernel_rfl⟩
instance : TySl Tryz.prog 48 54 1 8 [.pointer none] := ⟨by kernel_rfl, by kernel_rfl, by decide, by decide⟩
instance : ZeroT Tryz.prog 48 [.slice none 0 0] := ⟨by kernel_rfl⟩
instance : TyOne Tryz.prog 50 := ⟨fun _ => by kernel_rfl, by kernel_rfl⟩
instance : ZeroT Tryz.prog 50 [.nilFunc] := ⟨by kernel_rfl⟩
instance : TyOne Tryz.prog 51 := ⟨fun _ => by kernel_rfl, by kernel_rfl⟩
instance : TySl Tryz.prog 51 59 5 56 [.int .i64 0, .int .i64 0, .int .i64 0, .int .i64 0, .slice none 0 0] := ⟨by kernel_rfl, by kernel_rfl, by decide, by decide⟩
instance : ZeroT Tryz.prog 51 [.slice none 0 0] := ⟨by kernel_rfl⟩
instance : TyOne Tryz.prog 53 := ⟨fun _ => by kernel_rfl, by kernel_rfl⟩
instance : ZeroT Tryz.prog 53 [.nilFunc] := ⟨by kernel_rfl⟩
instance : TyOne Tryz.prog 54 := ⟨fun _ => by kernel_rfl, by kernel_rfl⟩
instance : TyPtr Tryz.prog 54 := ⟨⟨114, by kernel_rfl⟩⟩
instance : ZeroT Tryz.prog 54 [.pointer none] := ⟨by kernel_rfl⟩
instance : TyOne Tryz.prog 55 := ⟨fun _ => by kernel_rfl, by kernel_rfl⟩
instance : TySl Tryz.prog 55 57 2 16 [.int .i64 0, .int .i64 0] := ⟨by kernel_rfl, by kernel_rfl, by decide, by decide⟩
instance : ZeroT Tryz.prog 55 [.slice none 0 0] := ⟨by kernel_rfl⟩
instance : TyAgg Tryz.prog 56 2 := ⟨fun _ => by kernel_rfl, by kernel_rfl⟩
instance : Fld Tryz.prog 56 0 0 := Fld.of 0 (by kernel_rfl)
instance : Fld Tryz.prog 56 1 1 := Fld.of 0 (by kernel_rfl)
instance : TyStruct Tryz.prog 56 [(0, 1), (1, 1)] := ⟨by kernel_rfl⟩
instance : ZeroT Tryz.prog 56 [.int .i64 0, .int .i64 0] := ⟨by kernel_rfl⟩
instance : TyAgg Tryz.prog 57 2 := ⟨fun _ => by kernel_rfl, by kernel_rfl⟩
instance : Fld Tryz.prog 57 0 0 := Fld.of 0 (by kernel_rfl)
instance : Fld Tryz.prog 57 1 1 := Fld.of 0 (by kernel_rfl)
instance : TyStruct Tryz.prog 57 [(0, 1), (1, 1)] := ⟨by kernel_rfl⟩
instance : ZeroT Tryz.prog 57 [.int .i64 0, .int .i64 0] := ⟨by kernel_rfl⟩
instance : TyAgg Tryz.prog 58 5 := ⟨fun _ => by kernel_rfl, by kernel_rfl⟩
instance : Fld Tryz.prog 58 0 0 := Fld.of 0 (by kernel_rfl)
instance : Fld Tryz.prog 58 1 1 := Fld.of 0 (by kernel_rfl)
instance : Fld Tryz.prog 58 2 2 := Fld.of 0 (by kernel_rfl)
instance : Fld Tryz.prog 58 3 3 := Fld.of 0 (by kernel_rfl)
instance : Fld Tryz.prog 58 4 4 := Fld.of 0 (by kernel_rfl)
instance : TyStruct Tryz.prog 58 [(0, 1), (1, 1), (2, 1), (3, 1), (4, 1)] := ⟨by kernel_rfl⟩
instance : ZeroT Tryz.prog 58 [.int .i64 0, .int .i64 0, .int .i64 0, .int .i64 0, .slice none 0 0] := ⟨by kernel_rfl⟩
instance : TyAgg Tryz.prog 59 5 := ⟨fun _ => by kernel_rfl, by kernel_rfl⟩
instance : Fld Tryz.prog 59 0 0 := Fld.of 0 (by kernel_rfl)
instance : Fld Tryz.prog 59 1 1 := Fld.of 0 (by kernel_rfl)
instance : Fld Tryz.prog 59 2 2 := Fld.of 0 (by kernel_rfl)
instance : Fld Tryz.prog 59 3 3 := Fld.of 0 (by kernel_rfl)
instance : Fld Tryz.prog 59 4 4 := Fld.of 0 (by kernel_rfl)
instance : TyStruct Tryz.prog 59 [(0, 1), (1, 1), (2, 1), (3, 1), (4, 1)] := ⟨by kernel_rfl⟩
instance : ZeroT Tryz.prog 59 [.int .i64 0, .int .i64 0, .int .i64 0, .int .i64 0, .slice none 0 0] := ⟨by kernel_rfl⟩
instance : TyOne Tryz.prog 60 := ⟨fun _ => by kernel_rfl, by kernel_rfl⟩
instance : ZeroT Tryz.prog 60 [.nilFunc] := ⟨by kernel_rfl⟩
instance : TyOne Tryz.prog 61 := ⟨fun _ => by kernel_rfl, by kernel_rfl⟩
instance : ZeroT Tryz.prog 61 [.nilFunc] := ⟨by kernel_rfl⟩
instance : TyOne Tryz.prog 62 := ⟨fun _ => by kernel_rfl, by kernel_rfl⟩
instance : TySl Tryz.prog 62 138 3 24 [.int .i64 0, .int .i64 0, .int .i64 0] := ⟨by kernel_rfl, by kernel_rfl, by decide, by decide⟩
instance : ZeroT Tryz.prog 62 [.slice none 0 0] := ⟨by kernel_rfl⟩
instance : TyAgg Tryz.prog 63 5 := ⟨fun _ => by kernel_rfl, by kernel_rfl⟩
instance : Fld Tryz.prog 63 0 0 := Fld.of 0 (by kernel_rfl)
instance : Fld Tryz.prog 63 1 1 := Fld.of 0 (by kernel_rfl)
instance : Fld Tryz.prog 63 2 2 := Fld.of 0 (by kernel_rfl)
instance : Fld Tryz.prog 63 3 3 := Fld.of 0 (by kernel_rfl)
instance : Fld Tryz.prog 63 4 4 := Fld.of 0 (by kernel_rfl)
instance : TyStruct Tryz.prog 63 [(0, 1), (1, 1), (2, 1), (3, 1), (4, 1)] := ⟨by kernel_rfl⟩
instance : ZeroT Tryz.prog 63 [.int .i64 0, .int .i64 0, .int .i64 0, .int .i64 0, .slice none 0 0] := ⟨by kernel_rfl⟩
instance : TyAgg Tryz.prog 64 5 := ⟨fun _ => by kernel_rfl, by kernel_rfl⟩
instance : Fld Tryz.prog 64 0 0 := Fld.of 0 (by kernel_rfl)
instance : Fld Tryz.prog 64 1 1 := Fld.of 0 (by kernel_rfl)
instance : Fld Tryz.prog 64 2 2 := Fld.of 0 (by kernel_rfl)
instance : Fld Tryz.prog 64 3 3 := Fld.of 0 (by kernel_rfl)
instance : Fld Tryz.prog 64 4 4 := Fld.of 0 (by kernel_rfl)
instance : TyStruct Tryz.prog 64 [(0, 1), (1, 1), (2, 1), (3, 1), (4, 1)] := ⟨by kernel_rfl⟩
instance : ZeroT Tryz.prog 64 [.int .i64 0, .int .i64 0, .int .i64 0, .int .i64 0, .slice none 0 0] := ⟨by kernel_rfl⟩
instance : TyOne Tryz.prog 65 := ⟨fun _ => by kernel_rfl, by kernel_rfl⟩
instance : TySl Tryz.prog 65 64 5 56 [.int .i64 0, .int .i64 0, .int .i64 0, .int .i64 0, .slice none 0 0] := ⟨by kernel_rfl, by kernel_rfl, by decide, by decide⟩
instance : ZeroT Tryz.prog 65 [.slice none 0 0] := ⟨by kernel_rfl⟩
instance : TyAgg Tryz.prog 66 7 := ⟨fun _ => by kernel_rfl, by kernel_rfl⟩
instance : Fld Tryz.prog 66 0 0 := Fld.of 0 (by kernel_rfl)
instance : Fld Tryz.prog 66 1 1 := Fld.of 0 (by kernel_rfl)
instance : Fld Tryz.prog 66 2 2 := Fld.of 0 (by kernel_rfl)
instance : Fld Tryz.prog 66 3 3 := Fld.of 0 (by kernel_rfl)
instance : Fld Tryz.prog 66 4 4 := Fld.of 0 (by kernel_rfl)
instance : Fld Tryz.prog 66 5 5 := Fld.of 0 (by kernel_rfl)
instance : Fld Tryz.prog 66 6 6 := Fld.of 0 (by kernel_rfl)
instance : TyStruct Tryz.prog 66 [(0, 1), (1, 1), (2, 1), (3, 1), (4, 1), (5, 1), (6, 1)] := ⟨by kernel_rfl⟩
instance : ZeroT Tryz.prog 66 [.int .i64 0, .int .i64 0, .int .i64 0, .int .i64 0, .int .i64 0, .int .i64 0, .slice none 0 0] := ⟨by kernel_rfl⟩
instance : TyAgg Tryz.prog 67 7 := ⟨fun _ => by kernel_rfl, by kernel_rfl⟩
instance : Fld Tryz.prog 67 0 0 := Fld.of 0 (by kernel_rfl)
instance : Fld Tryz.prog 67 1 1 := Fld.of 0 (by kernel_rfl)
instance : Fld Tryz.prog 67 2 2 := Fld.of 0 (by kernel_rfl)
instance : Fld Tryz.prog 67 3 3 := Fld.of 0 (by kernel_rfl)
instance : Fld Tryz.prog 67 4 4 := Fld.of 0 (by kernel_rfl)
instance : Fld Tryz.prog 67 5 5 := Fld.of 0 (by kernel_rfl)
instance : Fld Tryz.prog 67 6 6 := Fld.of 0 (by kernel_rfl)
instance : TyStruct Tryz.prog 67 [(0, 1), (1, 1), (2, 1), (3, 1), (4, 1), (5, 1), (6, 1)] := ⟨by kernel_rfl⟩
instance : ZeroT Tryz.prog 67 [.int .i64 0, .int .i64 0, .int .i64 0, .int .i64 0, .int .i64 0, .int .i64 0, .slice none 0 0] := ⟨by kernel_rfl⟩
instance : TyOne Tryz.prog 68 := ⟨fun _ => by kernel_rfl, by kernel_rfl⟩
instance : TySl Tryz.prog 68 51 1 24 [.slice none 0 0] := ⟨by kernel_rfl, by kernel_rfl, by decide, by decide⟩
instance : ZeroT Tryz.prog 68 [.slice none 0 0] := ⟨by kernel_rfl⟩
instance : TyOne Tryz.prog 70 := ⟨fun _ => by kernel_rfl, by kernel_rfl⟩
instance : ZeroT Tryz.prog 70 [.nilFunc] := ⟨by kernel_rfl⟩
instance : TyOne Tryz.prog 71 := ⟨fun _ => by kernel_rfl, by kernel_rfl⟩
instance : TySl Tryz.prog 71 74 3 24 [.int .i64 0, .int .i64 0, .int .i64 0] := ⟨by kernel_rfl, by kernel_rfl, by decide, by decide⟩
instance : ZeroT Tryz.prog 71 [.slice none 0 0] := ⟨by kernel_rfl⟩
instance : TyOne Tryz.prog 72 := ⟨fun _ => by kernel_rfl, by kernel_rfl⟩
instance : ZeroT Tryz.prog 72 [.nilFunc] := ⟨by kernel_rfl⟩
instance : TyAgg Tryz.prog 73 3 := ⟨fun _ => by kernel_rfl, by kernel_rfl⟩
instance : Fld Tryz.prog 73 0 0 := Fld.of 0 (by kernel_rfl)
instance : Fld Tryz.prog 73 1 1 := Fld.of 0 (by kernel_rfl)
instance : Fld Tryz.prog 73 2 2 := Fld.of 0 (by kernel_rfl)
instance : TyStruct Tryz.prog 73 [(0, 1), (1, 1), (2, 1)] := ⟨by kernel_rfl⟩
instance : ZeroT Tryz.prog 73 [.int .i64 0, .int .i64 0, .int .i64 0] := ⟨by kernel_rfl⟩
instance : TyAgg Tryz.prog 74 3 := ⟨fun _ => by kernel_rfl, by kernel_rfl⟩
instance : Fld Tryz.prog 74 0 0 := Fld.of 0 (by kernel_rfl)
instance : Fld Tryz.prog 74 1 1 := Fld.of 0 (by kernel_rfl)
instance : Fld Tryz.prog 74 2 2 := Fld.of 0 (by kernel_rfl)
instance : TyStruct Tryz.prog 74 [(0, 1), (1, 1), (2, 1)] := ⟨by kernel_rfl⟩
instance : ZeroT Tryz.prog 74 [.int .i64 0, .int .i64 0, .int .i64 0] := ⟨by kernel_rfl⟩
instance : TyOne Tryz.prog 75 := ⟨fun _ => by kernel_rfl, by kernel_rfl⟩
instance : ZeroT Tryz.prog 75 [.nilFunc] := ⟨by kernel_rfl⟩
instance : TyOne Tryz.prog 77 := ⟨fun _ => by kernel_rfl, by kernel_rfl⟩
instance : ZeroT Tryz.prog 77 [.nilFunc] := ⟨by kernel_rfl⟩
instance : TyOne Tryz.prog 78 := ⟨fun _ => by kernel_rfl, by kernel_rfl⟩
instance : ZeroT Tryz.prog 78 [.nilFunc] := ⟨by kernel_rfl⟩
instance : TyOne Tryz.prog 79 := ⟨fun _ => by kernel_rfl, by kernel_rfl⟩
instance : ZeroT Tryz.prog 79 [.nilFunc] := ⟨by kernel_rfl⟩
instance : TyOne Tryz.prog 80 := ⟨fun _ => by kernel_rfl, by kernel_rfl⟩
instance : ZeroT Tryz.prog 80 [.nilFunc] := ⟨by kernel_rfl⟩
instance : TyOne Tryz.prog 81 := ⟨fun _ => by kernel_rfl, by kernel_rfl⟩
instance : ZeroT Tryz.prog 81 [.nilFunc] := ⟨by kernel_rfl⟩
instance : TyAgg Tryz.prog 82 2 := ⟨fun _ => by kernel_rfl, by kernel_rfl⟩
instance : Fld Tryz.prog 82 0 0 := Fld.of 0 (by kernel_rfl)
instance : Fld Tryz.prog 82 1 1 := Fld.of 0 (by kernel_rfl)
instance : TyStruct Tryz.prog 82 [(0, 1), (1, 1)] := ⟨by kernel_rfl⟩
instance : ZeroT Tryz.prog 82 [.int .i64 0, .int .i64 0] := ⟨by kernel_rfl⟩
instance : TyAgg Tryz.prog 83 2 := ⟨fun _ => by kernel_rfl, by kernel_rfl⟩
instance : Fld Tryz.prog 83 0 0 := Fld.of 0 (by kernel_rfl)
instance : Fld Tryz.prog 83 1 1 := Fld.of 0 (by kernel_rfl)
instance : TyStruct Tryz.prog 83 [(0, 1), (1, 1)] := ⟨by kernel_rfl⟩
instance : ZeroT Tryz.prog 83 [.int .i64 0, .int .i64 0] := ⟨by kernel_rfl⟩
instance : TyAgg Tryz.prog 84 2 := ⟨fun _ => by kernel_rfl, by kernel_rfl⟩
instance : Fld Tryz.prog 84 0 0 := Fld.of 0 (by kernel_rfl)
instance : Fld Tryz.prog 84 1 1 := Fld.of 0 (by kernel_rfl)
instance : TyStruct Tryz.prog 84 [(0, 1), (1, 1)] := ⟨by kernel_rfl⟩
instance : ZeroT Tryz.prog 84 [.int .i64 0, .int .i64 0] := ⟨by kernel_rfl⟩
instance : TyOne Tryz.prog 85 := ⟨fun _ => by kernel_rfl, by kernel_rfl⟩
instance : ZeroT Tryz.prog 85 [.nilFunc] := ⟨by kernel_rfl⟩
instance : TyOne Tryz.prog 86 := ⟨fun _ => by kernel_rfl, by kernel_rfl⟩
instance : ZeroT Tryz.prog 86 [.nilFunc] := ⟨by kernel_rfl⟩
instance : TyOne Tryz.prog 87 := ⟨fun _ => by kernel_rfl, by kernel_rfl⟩
instance : ZeroT Tryz.prog 87 [.nilFunc] := ⟨by kernel_rfl⟩
instance : TyOne Tryz.prog 89 := ⟨fun _ => by kernel_rfl, by kernel_rfl⟩
instance : ZeroT Tryz.prog 89 [.nilFunc] := ⟨by kernel_rfl⟩
instance : TyOne Tryz.prog 90 := ⟨fun _ => by kernel_rfl, by kernel_rfl⟩
instance : TySl Tryz.prog 90 135 7 48 [.string ⟨#[]⟩, .bool false, .bool false, .bool false, .int .i64 0, .int .i64 0, .int .i64 0] := ⟨by kernel_rfl, by kernel_rfl, by decide, by decide⟩
instance : ZeroT Tryz.prog 90 [.slice none 0 0] := ⟨by kernel_rfl⟩
instance : TyOne Tryz.prog 91 := ⟨fun _ => by kernel_rfl, by kernel_rfl⟩
instance : TySl Tryz.prog 91 150 9 128 [.string ⟨#[]⟩, .bool false, .int .i64 0, .int .i64 0, .int .i64 0, .int .i64 0, .slice none 0 0, .slice none 0 0, .slice none 0 0] := ⟨by kernel_rfl, by kernel_rfl, by decide, by decide⟩
instance : ZeroT Tryz.prog 91 [.slice none 0 0] := ⟨by kernel_rfl⟩
instance : TyOne Tryz.prog 92 := ⟨fun _ => by kernel_rfl, by kernel_rfl⟩
instance : TySl Tryz.prog 92 155 2 40 [.string ⟨#[]⟩, .slice none 0 0] := ⟨by kernel_rfl, by kernel_rfl, by decide, by decide⟩
instance : ZeroT Tryz.prog 92 [.slice none 0 0] := ⟨by kernel_rfl⟩
instance : TyOne Tryz.prog 93 := ⟨fun _ => by kernel_rfl, by kernel_rfl⟩
instance : TySl Tryz.prog 93 160 2 40 [.string ⟨#[]⟩, .slice none 0 0] := ⟨by kernel_rfl, by kernel_rfl, by decide, by decide⟩
instance : ZeroT Tryz.prog 93 [.slice none 0 0] := ⟨by kernel_rfl⟩
instance : TyAgg Tryz.prog 94 4 := ⟨fun _ => by kernel_rfl, by kernel_rfl⟩
instance : Fld Tryz.prog 94 0 0 := Fld.of 0 (by kernel_rfl)
instance : Fld Tryz.prog 94 1 1 := Fld.of 0 (by kernel_rfl)
instance : Fld Tryz.prog 94 2 2 := Fld.of 0 (by kernel_rfl)
instance : Fld Tryz.prog 94 3 3 := Fld.of 0 (by kernel_rfl)
instance : TyStruct Tryz.prog 94 [(0, 1), (1, 1), (2, 1), (3, 1)] := ⟨by kernel_rfl⟩
instance : ZeroT Tryz.prog 94 [.slice none 0 0, .slice none 0 0, .slice none 0 0, .slice none 0 0] := ⟨by kernel_rfl⟩
instance : TyAgg Tryz.prog 95 4 := ⟨fun _ => by kernel_rfl, by kernel_rfl⟩
instance : Fld Tryz.prog 95 0 0 := Fld.of 0 (by kernel_rfl)
instance : Fld Tryz.prog 95 1 1 := Fld.of 0 (by kernel_rfl)
instance : Fld Tryz.prog 95 2 2 := Fld.of 0 (by kernel_rfl)
instance : Fld Tryz.prog 95 3 3 := Fld.of 0 (by kernel_rfl)
instance : TyStruct Tryz.prog 95 [(0, 1), (1, 1), (2, 1), (3, 1)] := ⟨by kernel_rfl⟩
instance : ZeroT Tryz.prog 95 [.slice none 0 0, .slice none 0 0, .slice none 0 0, .slice none 0 0] := ⟨by kernel_rfl⟩
instance : TyOne Tryz.prog 96 := ⟨fun _ => by kernel_rfl, by kernel_rfl⟩
instance : ZeroT Tryz.prog 96 [.nilFunc] := ⟨by kernel_rfl⟩
instance : TyOne Tryz.prog 97 := ⟨fun _ => by kernel_rfl, by kernel_rfl⟩
instance : ZeroT Tryz.prog 97 [.nilFunc] := ⟨by kernel_rfl⟩
instance : TyOne Tryz.prog 98 := ⟨fun _ => by kernel_rfl, by kernel_rfl⟩
instance : ZeroT Tryz.prog 98 [.nilFunc] := ⟨by kernel_rfl⟩
instance : TyOne Tryz.prog 99 := ⟨fun _ => by kernel_rfl, by kernel_rfl⟩
instance : TyPtr Tryz.prog 99 := ⟨⟨30, by kernel_rfl⟩⟩
instance : ZeroT Tryz.prog 99 [.pointer none] := ⟨by kernel_rfl⟩
instance : TyOne Tryz.prog 100 := ⟨fun _ => by kernel_rfl, by kernel_rfl⟩
instance : ZeroT Tryz.prog 100 [.nilFunc] := ⟨by kernel_rfl⟩
instance : TyOne Tryz.prog 101 := ⟨fun _ => by kernel_rfl, by kernel_rfl⟩
instance : ZeroT Tryz.prog 101 [.nilFunc] := ⟨by kernel_rfl⟩
instance : TyOne Tryz.prog 102 := ⟨fun _ => by kernel_rfl, by kernel_rfl⟩
instance : ZeroT Tryz.prog 102 [.nilFunc] := ⟨by kernel_rfl⟩
instance : TyAgg Tryz.prog 103 2 := ⟨fun _ => by kernel_rfl, by kernel_rfl⟩
instance : Fld Tryz.prog 103 0 0 := Fld.of 0 (by kernel_rfl)
instance : Fld Tryz.prog 103 1 1 := Fld.of 0 (by kernel_rfl)
instance : TyStruct Tryz.prog 103 [(0, 1), (1, 1)] := ⟨by kernel_rfl⟩
instance : ZeroT Tryz.prog 103 [.int .i64 0, .int .i64 0] := ⟨by kernel_rfl⟩
instance : TyAgg Tryz.prog 104 2 := ⟨fun _ => by kernel_rfl, by kernel_rfl⟩
instance : Fld Tryz.prog 104 0 0 := Fld.of 0 (by kernel_rfl)
instance : Fld Tryz.prog 104 1 1 := Fld.of 0 (by kernel_rfl)
instance : TyStruct Tryz.prog 104 [(0, 1), (1, 1)] := ⟨by kernel_rfl⟩
instance : ZeroT Tryz.prog 104 [.int .i64 0, .int .i64 0] := ⟨by kernel_rfl⟩
instance : TyOne Tryz.prog 105 := ⟨fun _ => by kernel_rfl, by kernel_rfl⟩
instance : ZeroT Tryz.prog 105 [.nilFunc] := ⟨by kernel_rfl⟩
instance : TyOne Tryz.prog 106 := ⟨fun _ => by kernel_rfl, by kernel_rfl⟩
instance : TySl Tryz.prog 106 67 7 72 [.int .i64 0, .int .i64 0, .int .i64 0, .int .i64 0, .int .i64 0, .int .i64 0, .slice none 0 0] := ⟨by kernel_rfl, by kernel_rfl, by decide, by decide⟩
instance : ZeroT Tryz.prog 106 [.slice none 0 0] := ⟨by kernel_rfl⟩
instance : TyOne Tryz.prog 107 := ⟨fun _ => by kernel_rfl, by kernel_rfl⟩
instance : ZeroT Tryz.prog 107 [.nilFunc] := ⟨by kernel_rfl⟩
instance : TyOne Tryz.prog 108 := ⟨fun _ => by kernel_rfl, by kernel_rfl⟩
instance : ZeroT Tryz.prog 108 [.nilFunc] := ⟨by kernel_rfl⟩
instance : TyOne Tryz.prog 109 := ⟨fun _ => by kernel_rfl, by kernel_rfl⟩
instance : TyMap Tryz.prog 109 116 62 := ⟨by kernel_rfl⟩
instance : ZeroT Tryz.prog 109 [.map none] := ⟨by kernel_rfl⟩
instance : TyOne Tryz.prog 110 := ⟨fun _ => by kernel_rfl, by kernel_rfl⟩
instance : TyMap Tryz.prog 110 3 3 := ⟨by kernel_rfl⟩
instance : TyKeyI Tryz.prog 110 3 (.int .i64 0) := ⟨⟨3, .i64, by kernel_rfl, by kernel_rfl, by kernel_rfl⟩⟩
instance : ZeroT Tryz.prog 110 [.map none] := ⟨by kernel_rfl⟩
instance : TyOne Tryz.prog 111 := ⟨fun _ => by kernel_rfl, by kernel_rfl⟩
instance : TySl Tryz.prog 111 174 11 120 [.int .i64 0, .int .i64 0, .int .i64 0, .int .i64 0, .int .i64 0, .int .i64 0, .int .i64 0, .int .i64 0, .int .i64 0, .slice none 0 0, .slice none 0 0] := ⟨by kernel_rfl, by kernel_rfl, by decide, by decide⟩
instance : ZeroT Tryz.prog 111 [.slice none 0 0] := ⟨by kernel_rfl⟩
instance : TyOne Tryz.prog 112 := ⟨fun _ => by kernel_rfl, by kernel_rfl⟩
instance : TyMap Tryz.prog 112 3 62 := ⟨by kernel_rfl⟩
instance : TyKeyI Tryz.prog 112 62 (.slice none 0 0) := ⟨⟨3, .i64, by kernel_rfl, by kernel_rfl, by kernel_rfl⟩⟩
instance : ZeroT Tryz.prog 112 [.map none] := ⟨by kernel_rfl⟩
instance : TyAgg Tryz.prog 113 11 := ⟨fun _ => by kernel_rfl, by kernel_rfl⟩
instance : Fld Tryz.prog 113 0 0 := Fld.of 0 (by kernel_rfl)
instance : Fld Tryz.prog 113 1 1 := Fld.of 3 (by kernel_rfl)
instance : Fld Tryz.prog 113 2 5 := Fld.of 0 (by kernel_rfl)
instance : Fld Tryz.prog 113 3 6 := Fld.of 0 (by kernel_rfl)
instance : Fld Tryz.prog 113 4 7 := Fld.of 0 (by kernel_rfl)
instance : Fld Tryz.prog 113 5 8 := Fld.of 0 (by kernel_rfl)
instance : Fld Tryz.prog 113 6 9 := Fld.of 0 (by kernel_rfl)
instance : Fld Tryz.prog 113 7 10 := Fld.of 0 (by kernel_rfl)
instance : TyStruct Tryz.prog 113 [(0, 1), (1, 4), (5, 1), (6, 1), (7, 1), (8, 1), (9, 1), (10, 1)] := ⟨by kernel_rfl⟩
instance : ZeroT Tryz.prog 113 [.int .i64 0, .slice none 0 0, .slice none 0 0, .slice none 0 0, .slice none 0 0, .map none, .map none, .slice none 0 0, .slice none 0 0, .map none, .map none] := ⟨by kernel_rfl⟩
instance : TyAgg Tryz.prog 114 11 := ⟨fun _ => by kernel_rfl, by kernel_rfl⟩
instance : Fld Tryz.prog 114 0 0 := Fld.of 0 (by kernel_rfl)
instance : Fld Tryz.prog 114 1 1 := Fld.of 3 (by kernel_rfl)
instance : Fld Tryz.prog 114 2 5 := Fld.of 0 (by kernel_rfl)
instance : Fld Tryz.prog 114 3 6 := Fld.of 0 (by kernel_rfl)
instance : Fld Tryz.prog 114 4 7 := Fld.of 0 (by kernel_rfl)
instance : Fld Tryz.prog 114 5 8 := Fld.of 0 (by kernel_rfl)
instance : Fld Tryz.prog 114 6 9 := Fld.of 0 (by kernel_rfl)
instance : Fld Tryz.prog 114 7 10 := Fld.of 0 (by kernel_rfl)
instance : TyStruct Tryz.prog 114 [(0, 1), (1, 4), (5, 1), (6, 1), (7, 1), (8, 1), (9, 1), (10, 1)] := ⟨by kernel_rfl⟩
instance : ZeroT Tryz.prog 114 [.int .i64 0, .slice none 0 0, .slice none 0 0, .slice none 0 0, .slice none 0 0, .map none, .map none, .slice none 0 0, .slice none 0 0, .map none, .map none] := ⟨by kernel_rfl⟩
instance : TyAgg Tryz.prog 115 2 := ⟨fun _ => by kernel_rfl, by kernel_rfl⟩
instance : Fld Tryz.prog 115 0 0 := Fld.of 0 (by kernel_rfl)
instance : Fld Tryz.prog 115 1 1 := Fld.of 0 (by kernel_rfl)
instance : TyStruct Tryz.prog 115 [(0, 1), (1, 1)] := ⟨by kernel_rfl⟩
instance : ZeroT Tryz.prog 115 [.int .i64 0, .int .i64 0] := ⟨by kernel_rfl⟩
instance : TyAgg Tryz.prog 116 2 := ⟨fun _ => by kernel_rfl, by kernel_rfl⟩
instance : Fld Tryz.prog 116 0 0 := Fld.of 0 (by kernel_rfl)
instance : Fld Tryz.prog 116 1 1 := Fld.of 0 (by kernel_rfl)
instance : TyStruct Tryz.prog 116 [(0, 1), (1, 1)] := ⟨by kernel_rfl⟩
instance : ZeroT Tryz.prog 116 [.int .i64 0, .int .i64 0] := ⟨by kernel_rfl⟩
instance : TyOne Tryz.prog 117 := ⟨fun _ => by kernel_rfl, by kernel_rfl⟩
instance : TyPtr Tryz.prog 117 := ⟨⟨121, by kernel_rfl⟩⟩
instance : ZeroT Tryz.prog 117 [.pointer none] := ⟨by kernel_rfl⟩
instance : TyOne Tryz.prog 119 := ⟨fun _ => by kernel_rfl, by kernel_rfl⟩
instance : ZeroT Tryz.prog 119 [.nilFunc] := ⟨by kernel_rfl⟩
instance : TyAgg Tryz.prog 120 14 := ⟨fun _ => by kernel_rfl, by kernel_rfl⟩
instance : Fld Tryz.prog 120 0 0 := Fld.of 0 (by kernel_rfl)
instance : Fld Tryz.prog 120 1 1 := Fld.of 6 (by kernel_rfl)
instance : Fld Tryz.prog 120 2 8 := Fld.of 0 (by kernel_rfl)
instance : Fld Tryz.prog 120 3 9 := Fld.of 0 (by kernel_rfl)
instance : Fld Tryz.prog 120 4 10 := Fld.of 0 (by kernel_rfl)
instance : Fld Tryz.prog 120 5 11 := Fld.of 0 (by kernel_rfl)
instance : Fld Tryz.prog 120 6 12 := Fld.of 0 (by kernel_rfl)
instance : Fld Tryz.prog 120 7 13 := Fld.of 0 (by kernel_rfl)
instance : TyStruct Tryz.prog 120 [(0, 1), (1, 7), (8, 1), (9, 1), (10, 1), (11, 1), (12, 1), (13, 1)] := ⟨by kernel_rfl⟩
instance : ZeroT Tryz.prog 120 [.pointer none, .int .i64 0, .int .i64 0, .int .i64 0, .int .i64 0, .int .i64 0, .int .i64 0, .slice none 0 0, .map none, .map none, .map none, .map none, .slice none 0 0, .slice none 0 0] := ⟨by kernel_rfl⟩
instance : TyAgg Tryz.prog 121 14 := ⟨fun _ => by kernel_rfl, by kernel_rfl⟩
instance : Fld Tryz.prog 121 0 0 := Fld.of 0 (by kernel_rfl)
instance : Fld Tryz.prog 121 1 1 := Fld.of 6 (by kernel_rfl)
instance : Fld Tryz.prog 121 2 8 := Fld.of 0 (by kernel_rfl)
instance : Fld Tryz.prog 121 3 9 := Fld.of 0 (by kernel_rfl)
instance : Fld Tryz.prog 121 4 10 := Fld.of 0 (by kernel_rfl)
instance : Fld Tryz.prog 121 5 11 := Fld.of 0 (by kernel_rfl)
instance : Fld Tryz.prog 121 6 12 := Fld.of 0 (by kernel_rfl)
instance : Fld Tryz.prog 121 7 13 := Fld.of 0 (by kernel_rfl)
instance : TyStruct Tryz.prog 121 [(0, 1), (1, 7), (8, 1), (9, 1), (10, 1), (11, 1), (12, 1), (13, 1)] := ⟨by kernel_rfl⟩
instance : ZeroT Tryz.prog 121 [.pointer none, .int .i64 0, .int .i64 0, .int .i64 0, .int .i64 0, .int .i64 0, .int .i64 0, .slice none 0 0, .map none, .map none, .map none, .map none, .slice none 0 0, .slice none 0 0] := ⟨by kernel_rfl⟩
instance : TyOne Tryz.prog 122 := ⟨fun _ => by kernel_rfl, by kernel_rfl⟩
instance : ZeroT Tryz.prog 122 [.nilFunc] := ⟨by kernel_rfl⟩
instance : TyOne Tryz.prog 123 := ⟨fun _ => by kernel_rfl, by kernel_rfl⟩
instance : ZeroT Tryz.prog 123 [.nilFunc] := ⟨by kernel_rfl⟩
instance : TyOne Tryz.prog 124 := ⟨fun _ => by kernel_rfl, by kernel_rfl⟩
instance : ZeroT Tryz.prog 124 [.nilFunc] := ⟨by kernel_rfl⟩
instance : TyOne Tryz.prog 125 := ⟨fun _ => by kernel_rfl, by kernel_rfl⟩
instance : ZeroT Tryz.prog 125 [.nilFunc] := ⟨by kernel_rfl⟩
instance : TyOne Tryz.prog 126 := ⟨fun _ => by kernel_rfl, by kernel_rfl⟩
instance : ZeroT Tryz.prog 126 [.nilFunc] := ⟨by kernel_rfl⟩
instance : TyOne Tryz.prog 127 := ⟨fun _ => by kernel_rfl, by kernel_rfl⟩
instance : ZeroT Tryz.prog 127 [.nilFunc] := ⟨by kernel_rfl⟩
instance : TyOne Tryz.prog 128 := ⟨fun _ => by kernel_rfl, by kernel_rfl⟩
instance : ZeroT Tryz.prog 128 [.nilFunc] := ⟨by kernel_rfl⟩
instance : TyOne Tryz.prog 130 := ⟨fun _ => by kernel_rfl, by kernel_rfl⟩
instance : ZeroT Tryz.prog 130 [.nilFunc] := ⟨by kernel_rfl⟩
instance : TyOne Tryz.prog 131 := ⟨fun _ => by kernel_rfl, by kernel_rfl⟩
instance : ZeroT Tryz.prog 131 [.nilFunc] := ⟨by kernel_rfl⟩
instance : TyOne Tryz.prog 132 := ⟨fun _ => by kernel_rfl, by kernel_rfl⟩
instance : ZeroT Tryz.prog 132 [.nilFunc] := ⟨by kernel_rfl⟩
instance : TyOne Tryz.prog 133 := ⟨fun _ => by kernel_rfl, by kernel_rfl⟩
instance : ZeroT Tryz.prog 133 [.nilFunc] := ⟨by kernel_rfl⟩
instance : TyAgg Tryz.prog 134 7 := ⟨fun _ => by kernel_rfl, by kernel_rfl⟩
instance : Fld Tryz.prog 134 0 0 := Fld.of 0 (by kernel_rfl)
instance : Fld Tryz.prog 134 1 1 := Fld.of 0 (by kernel_rfl)
instance : Fld Tryz.prog 134 2 2 := Fld.of 0 (by kernel_rfl)
instance : Fld Tryz.prog 134 3 3 := Fld.of 0 (by kernel_rfl)
instance : Fld Tryz.prog 134 4 4 := Fld.of 0 (by kernel_rfl)
instance : Fld Tryz.prog 134 5 5 := Fld.of 0 (by kernel_rfl)
instance : Fld Tryz.prog 134 6 6 := Fld.of 0 (by kernel_rfl)
instance : TyStruct Tryz.prog 134 [(0, 1), (1, 1), (2, 1), (3, 1), (4, 1), (5, 1), (6, 1)] := ⟨by kernel_rfl⟩
instance : ZeroT Tryz.prog 134 [.string ⟨#[]⟩, .bool false, .bool false, .bool false, .int .i64 0, .int .i64 0, .int .i64 0] := ⟨by kernel_rfl⟩
instance : TyAgg Tryz.prog 135 7 := ⟨fun _ => by kernel_rfl, by kernel_rfl⟩
instance : Fld Tryz.prog 135 0 0 := Fld.of 0 (by kernel_rfl)
instance : Fld Tryz.prog 135 1 1 := Fld.of 0 (by kernel_rfl)
instance : Fld Tryz.prog 135 2 2 := Fld.of 0 (by kernel_rfl)
instance : Fld Tryz.prog 135 3 3 := Fld.of 0 (by kernel_rfl)
instance : Fld Tryz.prog 135 4 4 := Fld.of 0 (by kernel_rfl)
instance : Fld Tryz.prog 135 5 5 := Fld.of 0 (by kernel_rfl)
instance : Fld Tryz.prog 135 6 6 := Fld.of 0 (by kernel_rfl)
instance : TyStruct Tryz.prog 135 [(0, 1), (1, 1), (2, 1), (3, 1), (4, 1), (5, 1), (6, 1)] := ⟨by kernel_rfl⟩
instance : ZeroT Tryz.prog 135 [.string ⟨#[]⟩, .bool false, .bool false, .bool false, .int .i64 0, .int .i64 0, .int .i64 0] := ⟨by kernel_rfl⟩
instance : TyOne Tryz.prog 136 := ⟨fun _ => by kernel_rfl, by kernel_rfl⟩
instance : ZeroT Tryz.prog 136 [.nilFunc] := ⟨by kernel_rfl⟩
instance : TyAgg Tryz.prog 137 3 := ⟨fun _ => by kernel_rfl, by kernel_rfl⟩
instance : Fld Tryz.prog 137 0 0 := Fld.of 0 (by kernel_rfl)
instance : Fld Tryz.prog 137 1 1 := Fld.of 0 (by kernel_rfl)
instance : Fld Tryz.prog 137 2 2 := Fld.of 0 (by kernel_rfl)
instance : TyStruct Tryz.prog 137 [(0, 1), (1, 1), (2, 1)] := ⟨by kernel_rfl⟩
instance : ZeroT Tryz.prog 137 [.int .i64 0, .int .i64 0, .int .i64 0] := ⟨by kernel_rfl⟩
instance : TyAgg Tryz.prog 138 3 := ⟨fun _ => by kernel_rfl, by kernel_rfl⟩
instance : Fld Tryz.prog 138 0 0 := Fld.of 0 (by kernel_rfl)
instance : Fld Tryz.prog 138 1 1 := Fld.of 0 (by kernel_rfl)
instance : Fld Tryz.prog 138 2 2 := Fld.of 0 (by kernel_rfl)
instance : TyStruct Tryz.prog 138 [(0, 1), (1, 1), (2, 1)] := ⟨by kernel_rfl⟩
instance : ZeroT Tryz.prog 138 [.int .i64 0, .int .i64 0, .int .i64 0] := ⟨by kernel_rfl⟩
instance : TyOne Tryz.prog 139 := ⟨fun _ => by kernel_rfl, by kernel_rfl⟩
instance : ZeroT Tryz.prog 139 [.nilFunc] := ⟨by kernel_rfl⟩
instance : TyOne Tryz.prog 140 := ⟨fun _ => by kernel_rfl, by kernel_rfl⟩
instance : ZeroT Tryz.prog 140 [.nilFunc] := ⟨by kernel_rfl⟩
instance : TyOne Tryz.prog 141 := ⟨fun _ => by kernel_rfl, by kernel_rfl⟩
instance : ZeroT Tryz.prog 141 [.nilFunc] := ⟨by kernel_rfl⟩
instance : TyOne Tryz.prog 142 := ⟨fun _ => by kernel_rfl, by kernel_rfl⟩
instance : ZeroT Tryz.prog 142 [.nilFunc] := ⟨by kernel_rfl⟩
instance : TyOne Tryz.prog 143 := ⟨fun _ => by kernel_rfl, by kernel_rfl⟩
instance : ZeroT Tryz.prog 143 [.nilFunc] := ⟨by kernel_rfl⟩
instance : TyOne Tryz.prog 144 := ⟨fun _ => by kernel_rfl, by kernel_rfl⟩
instance : TyInt Tryz.prog 144 .u64 := ⟨by kernel_rfl⟩
instance : ZeroT Tryz.prog 144 [.int .u64 0] := ⟨by kernel_rfl⟩
instance : TyOne Tryz.prog 145 := ⟨fun _ => by kernel_rfl, by kernel_rfl⟩
instance : ZeroT Tryz.prog 145 [.nilFunc] := ⟨by kernel_rfl⟩
instance : TyOne Tryz.prog 146 := ⟨fun _ => by kernel_rfl, by kernel_rfl⟩
instance : ZeroT Tryz.prog 146 [.nilFunc] := ⟨by kernel_rfl⟩
instance : TyOne Tryz.prog 147 := ⟨fun _ => by kernel_rfl, by kernel_rfl⟩
instance : ZeroT Tryz.prog 147 [.nilFunc] := ⟨by kernel_rfl⟩
instance : TyOne Tryz.prog 148 := ⟨fun _ => by kernel_rfl, by kernel_rfl⟩
instance : ZeroT Tryz.prog 148 [.nilFunc] := ⟨by kernel_rfl⟩
instance : TyAgg Tryz.prog 149 9 := ⟨fun _ => by kernel_rfl, by kernel_rfl⟩
instance : Fld Tryz.prog 149 0 0 := Fld.of 0 (by kernel_rfl)
instance : Fld Tryz.prog 149 1 1 := Fld.of 0 (by kernel_rfl)
instance : Fld Tryz.prog 149 2 2 := Fld.of 0 (by kernel_rfl)
instance : Fld Tryz.prog 149 3 3 := Fld.of 0 (by kernel_rfl)
instance : Fld Tryz.prog 149 4 4 := Fld.of 0 (by kernel_rfl)
instance : Fld Tryz.prog 149 5 5 := Fld.of 0 (by kernel_rfl)
instance : Fld Tryz.prog 149 6 6 := Fld.of 0 (by kernel_rfl)
instance : Fld Tryz.prog 149 7 7 := Fld.of 0 (by kernel_rfl)
instance : Fld Tryz.prog 149 8 8 := Fld.of 0 (by kernel_rfl)
instance : TyStruct Tryz.prog 149 [(0, 1), (1, 1), (2, 1), (3, 1), (4, 1), (5, 1), (6, 1), (7, 1), (8, 1)] := ⟨by kernel_rfl⟩
instance : ZeroT Tryz.prog 149 [.string ⟨#[]⟩, .bool false, .int .i64 0, .int .i64 0, .int .i64 0, .int .i64 0, .slice none 0 0, .slice none 0 0, .slice none 0 0] := ⟨by kernel_rfl⟩
instance : TyAgg Tryz.prog 150 9 := ⟨fun _ => by kernel_rfl, by kernel_rfl⟩
instance : Fld Tryz.prog 150 0 0 := Fld.of 0 (by kernel_rfl)
instance : Fld Tryz.prog 150 1 1 := Fld.of 0 (by kernel_rfl)
instance : Fld Tryz.prog 150 2 2 := Fld.of 0 (by kernel_rfl)
instance : Fld Tryz.prog 150 3 3 := Fld.of 0 (by kernel_rfl)
instance : Fld Tryz.prog 150 4 4 := Fld.of 0 (by kernel_rfl)
instance : Fld Tryz.prog 150 5 5 := Fld.of 0 (by kernel_rfl)
instance : Fld Tryz.prog 150 6 6 := Fld.of 0 (by kernel_rfl)
instance : Fld Tryz.prog 150 7 7 := Fld.of 0 (by kernel_rfl)
instance : Fld Tryz.prog 150 8 8 := Fld.of 0 (by kernel_rfl)
instance : TyStruct Tryz.prog 150 [(0, 1), (1, 1), (2, 1), (3, 1), (4, 1), (5, 1), (6, 1), (7, 1), (8, 1)] := ⟨by kernel_rfl⟩
instance : ZeroT Tryz.prog 150 [.string ⟨#[]⟩, .bool false, .int .i64 0, .int .i64 0, .int .i64 0, .int .i64 0, .slice none 0 0, .slice none 0 0, .slice none 0 0] := ⟨by kernel_rfl⟩
instance : TyOne Tryz.prog 151 := ⟨fun _ => by kernel_rfl, by kernel_rfl⟩
instance : ZeroT Tryz.prog 151 [.nilFunc] := ⟨by kernel_rfl⟩
instance : TyOne Tryz.prog 152 := ⟨fun _ => by kernel_rfl, by kernel_rfl⟩
instance : ZeroT Tryz.prog 152 [.nilFunc] := ⟨by kernel_rfl⟩
instance : TyOne Tryz.prog 153 := ⟨fun _ => by kernel_rfl, by kernel_rfl⟩
instance : TySl Tryz.prog 153 215 2 32 [.int .i64 0, .slice none 0 0] := ⟨by kernel_rfl, by kernel_rfl, by decide, by decide⟩
instance : ZeroT Tryz.prog 153 [.slice none 0 0] := ⟨by kernel_rfl⟩
instance : TyAgg Tryz.prog 154 2 := ⟨fun _ => by kernel_rfl, by kernel_rfl⟩
instance : Fld Tryz.prog 154 0 0 := Fld.of 0 (by kernel_rfl)
instance : Fld Tryz.prog 154 1 1 := Fld.of 0 (by kernel_rfl)
instance : TyStruct Tryz.prog 154 [(0, 1), (1, 1)] := ⟨by kernel_rfl⟩
instance : ZeroT Tryz.prog 154 [.string ⟨#[]⟩, .slice none 0 0] := ⟨by kernel_rfl⟩
instance : TyAgg Tryz.prog 155 2 := ⟨fun _ => by kernel_rfl, by kernel_rfl⟩
instance : Fld Tryz.prog 155 0 0 := Fld.of 0 (by kernel_rfl)
instance : Fld Tryz.prog 155 1 1 := Fld.of 0 (by kernel_rfl)
instance : TyStruct Tryz.prog 155 [(0, 1), (1, 1)] := ⟨by kernel_rfl⟩
instance : ZeroT Tryz.prog 155 [.string ⟨#[]⟩, .slice none 0 0] := ⟨by kernel_rfl⟩
instance : TyOne Tryz.prog 156 := ⟨fun _ => by kernel_rfl, by kernel_rfl⟩
instance : ZeroT Tryz.prog 156 [.nilFunc] := ⟨by kernel_rfl⟩
instance : TyOne Tryz.prog 157 := ⟨fun _ => by kernel_rfl, by kernel_rfl⟩
instance : ZeroT Tryz.prog 157 [.nilFunc] := ⟨by kernel_rfl⟩
instance : TyOne Tryz.prog 158 := ⟨fun _ => by kernel_rfl, by kernel_rfl⟩
instance : TySl Tryz.prog 158 224 2 16 [.int .i64 0, .int .i64 0] := ⟨by kernel_rfl, by kernel_rfl, by decide, by decide⟩
instance : ZeroT Tryz.prog 158 [.slice none 0 0] := ⟨by kernel_rfl⟩
instance : TyAgg Tryz.prog 159 2 := ⟨fun _ => by kernel_rfl, by kernel_rfl⟩
instance : Fld Tryz.prog 159 0 0 := Fld.of 0 (by kernel_rfl)
instance : Fld Tryz.prog 159 1 1 := Fld.of 0 (by kernel_rfl)
instance : TyStruct Tryz.prog 159 [(0, 1), (1, 1)] := ⟨by kernel_rfl⟩
instance : ZeroT Tryz.prog 159 [.string ⟨#[]⟩, .slice none 0 0] := ⟨by kernel_rfl⟩
instance : TyAgg Tryz.prog 160 2 := ⟨fun _ => by kernel_rfl, by kernel_rfl⟩
instance : Fld Tryz.prog 160 0 0 := Fld.of 0 (by kernel_rfl)
instance : Fld Tryz.prog 160 1 1 := Fld.of 0 (by kernel_rfl)
instance : TyStruct Tryz.prog 160 [(0, 1), (1, 1)] := ⟨by kernel_rfl⟩
instance : ZeroT Tryz.prog 160 [.string ⟨#[]⟩, .slice none 0 0] := ⟨by kernel_rfl⟩
instance : TyOne Tryz.prog 161 := ⟨fun _ => by kernel_rfl, by kernel_rfl⟩
instance : ZeroT Tryz.prog 161 [.nilFunc] := ⟨by kernel_rfl⟩
instance : TyOne Tryz.prog 162 := ⟨fun _ => by kernel_rfl, by kernel_rfl⟩
instance : ZeroT Tryz.prog 162 [.nilFunc] := ⟨by kernel_rfl⟩
instance : TyAgg Tryz.prog 163 4 := ⟨fun _ => by kernel_rfl, by kernel_rfl⟩
instance : Fld Tryz.prog 163 0 0 := Fld.of 0 (by kernel_rfl)
instance : Fld Tryz.prog 163 1 1 := Fld.of 0 (by kernel_rfl)
instance : Fld Tryz.prog 163 2 2 := Fld.of 0 (by kernel_rfl)
instance : Fld Tryz.prog 163 3 3 := Fld.of 0 (by kernel_rfl)
instance : TyStruct Tryz.prog 163 [(0, 1), (1, 1), (2, 1), (3, 1)] := ⟨by kernel_rfl⟩
instance : ZeroT Tryz.prog 163 [.nilFunc, .nilFunc, .bool false, .nilFunc] := ⟨by kernel_rfl⟩
instance : TyAgg Tryz.prog 164 4 := ⟨fun _ => by kernel_rfl, by kernel_rfl⟩
instance : Fld Tryz.prog 164 0 0 := Fld.of 0 (by kernel_rfl)
instance : Fld Tryz.prog 164 1 1 := Fld.of 0 (by kernel_rfl)
instance : Fld Tryz.prog 164 2 2 := Fld.of 0 (by kernel_rfl)
instance : Fld Tryz.prog 164 3 3 := Fld.of 0 (by kernel_rfl)
instance : TyStruct Tryz.prog 164 [(0, 1), (1, 1), (2, 1), (3, 1)] := ⟨by kernel_rfl⟩
instance : ZeroT Tryz.prog 164 [.nilFunc, .nilFunc, .bool false, .nilFunc] := ⟨by kernel_rfl⟩
instance : TyOne Tryz.prog 166 := ⟨fun _ => by kernel_rfl, by kernel_rfl⟩
instance : ZeroT Tryz.prog 166 [.nilFunc] := ⟨by kernel_rfl⟩
instance : TyOne Tryz.prog 167 := ⟨fun _ => by kernel_rfl, by kernel_rfl⟩
instance : ZeroT Tryz.prog 167 [.nilFunc] := ⟨by kernel_rfl⟩
instance : TyOne Tryz.prog 168 := ⟨fun _ => by kernel_rfl, by kernel_rfl⟩
instance : ZeroT Tryz.prog 168 [.nilFunc] := ⟨by kernel_rfl⟩
instance : TyOne Tryz.prog 169 := ⟨fun _ => by kernel_rfl, by kernel_rfl⟩
instance : ZeroT Tryz.prog 169 [.nilFunc] := ⟨by kernel_rfl⟩
instance : TyOne Tryz.prog 170 := ⟨fun _ => by kernel_rfl, by kernel_rfl⟩
instance : ZeroT Tryz.prog 170 [.nilFunc] := ⟨by kernel_rfl⟩
instance : TyOne Tryz.prog 172 := ⟨fun _ => by kernel_rfl, by kernel_rfl⟩
instance : ZeroT Tryz.prog 172 [.nilFunc] := ⟨by kernel_rfl⟩
instance : TyAgg Tryz.prog 173 11 := ⟨fun _ => by kernel_rfl, by kernel_rfl⟩
instance : Fld Tryz.prog 173 0 0 := Fld.of 0 (by kernel_rfl)
instance : Fld Tryz.prog 173 1 1 := Fld.of 0 (by kernel_rfl)
instance : Fld Tryz.prog 173 2 2 := Fld.of 0 (by kernel_rfl)
instance : Fld Tryz.prog 173 3 3 := Fld.of 0 (by kernel_rfl)
instance : Fld Tryz.prog 173 4 4 := Fld.of 0 (by kernel_rfl)
instance : Fld Tryz.prog 173 5 5 := Fld.of 0 (by kernel_rfl)
instance : Fld Tryz.prog 173 6 6 := Fld.of 0 (by kernel_rfl)
instance : Fld Tryz.prog 173 7 7 := Fld.of 0 (by kernel_rfl)
instance : Fld Tryz.prog 173 8 8 := Fld.of 0 (by kernel_rfl)
instance : Fld Tryz.prog 173 9 9 := Fld.of 0 (by kernel_rfl)
instance : Fld Tryz.prog 173 10 10 := Fld.of 0 (by kernel_rfl)
instance : TyStruct Tryz.prog 173 [(0, 1), (1, 1), (2, 1), (3, 1), (4, 1), (5, 1), (6, 1), (7, 1), (8, 1), (9, 1), (10, 1)] := ⟨by kernel_rfl⟩
instance : ZeroT Tryz.prog 173 [.int .i64 0, .int .i64 0, .int .i64 0, .int .i64 0, .int .i64 0, .int .i64 0, .int .i64 0, .int .i64 0, .int .i64 0, .slice none 0 0, .slice none 0 0] := ⟨by kernel_rfl⟩
instance : TyAgg Tryz.prog 174 11 := ⟨fun _ => by kernel_rfl, by kernel_rfl⟩
instance : Fld Tryz.prog 174 0 0 := Fld.of 0 (by kernel_rfl)
instance : Fld Tryz.prog 174 1 1 := Fld.of 0 (by kernel_rfl)
instance : Fld Tryz.prog 174 2 2 := Fld.of 0 (by kernel_rfl)
instance : Fld Tryz.prog 174 3 3 := Fld.of 0 (by kernel_rfl)
instance : Fld Tryz.prog 174 4 4 := Fld.of 0 (by kernel_rfl)
instance : Fld Tryz.prog 174 5 5 := Fld.of 0 (by kernel_rfl)
instance : Fld Tryz.prog 174 6 6 := Fld.of 0 (by kernel_rfl)
instance : Fld Tryz.prog 174 7 7 := Fld.of 0 (by kernel_rfl)
instance : Fld Tryz.prog 174 8 8 := Fld.of 0 (by kernel_rfl)
instance : Fld Tryz.prog 174 9 9 := Fld.of 0 (by kernel_rfl)
instance : Fld Tryz.prog 174 10 10 := Fld.of 0 (by kernel_rfl)
instance : TyStruct Tryz.prog 174 [(0, 1), (1, 1), (2, 1), (3, 1), (4, 1), (5, 1), (6, 1), (7, 1), (8, 1), (9, 1), (10, 1)] := ⟨by kernel_rfl⟩
instance : ZeroT Tryz.prog 174 [.int .i64 0, .int .i64 0, .int .i64 0, .int .i64 0, .int .i64 0, .int .i64 0, .int .i64 0, .int .i64 0, .int .i64 0, .slice none 0 0, .slice none 0 0] := ⟨by kernel_rfl⟩
instance : TyOne Tryz.prog 175 := ⟨fun _ => by kernel_rfl, by kernel_rfl⟩
instance : ZeroT Tryz.prog 175 [.nilFunc] := ⟨by kernel_rfl⟩
instance : TyOne Tryz.prog 176 := ⟨fun _ => by kernel_rfl, by kernel_rfl⟩
instance : ZeroT Tryz.prog 176 [.nilFunc] := ⟨by kernel_rfl⟩
instance : TyOne Tryz.prog 177 := ⟨fun _ => by kernel_rfl, by kernel_rfl⟩
instance : ZeroT Tryz.prog 177 [.nilFunc] := ⟨by kernel_rfl⟩
instance : TyOne Tryz.prog 178 := ⟨fun _ => by kernel_rfl, by kernel_rfl⟩
instance : TyInt Tryz.prog 178 .i64 := ⟨by kernel_rfl⟩
instance : ZeroT Tryz.prog 178 [.int .i64 0] := ⟨by kernel_rfl⟩
instance : TyOne Tryz.prog 180 := ⟨fun _ => by kernel_rfl, by kernel_rfl⟩
instance : ZeroT Tryz.prog 180 [.nilFunc] := ⟨by kernel_rfl⟩
instance : TyOne Tryz.prog 181 := ⟨fun _ => by kernel_rfl, by kernel_rfl⟩
instance : ZeroT Tryz.prog 181 [.nilFunc] := ⟨by kernel_rfl⟩
instance : TyOne Tryz.prog 182 := ⟨fun _ => by kernel_rfl, by kernel_rfl⟩
instance : ZeroT Tryz.prog 182 [.nilFunc] := ⟨by kernel_rfl⟩
instance : TyOne Tryz.prog 183 := ⟨fun _ => by kernel_rfl, by kernel_rfl⟩
instance : ZeroT Tryz.prog 183 [.nilFunc] := ⟨by kernel_rfl⟩
instance : TyOne Tryz.prog 184 := ⟨fun _ => by kernel_rfl, by kernel_rfl⟩
instance : ZeroT Tryz.prog 184 [.nilFunc] := ⟨by kernel_rfl⟩
instance : TyOne Tryz.prog 185 := ⟨fun _ => by kernel_rfl, by kernel_rfl⟩
instance : TyInt Tryz.prog 185 .u32 := ⟨by kernel_rfl⟩
instance : ZeroT Tryz.prog 185 [.int .u32 0] := ⟨by kernel_rfl⟩
instance : TyOne Tryz.prog 186 := ⟨fun _ => by kernel_rfl, by kernel_rfl⟩
instance : ZeroT Tryz.prog 186 [.nilFunc] := ⟨by kernel_rfl⟩
instance : TyOne Tryz.prog 187 := ⟨fun _ => by kernel_rfl, by kernel_rfl⟩
instance : TyInt Tryz.prog 187 .u64 := ⟨by kernel_rfl⟩
instance : ZeroT Tryz.prog 187 [.int .u64 0] := ⟨by kernel_rfl⟩
instance : TyOne Tryz.prog 188 := ⟨fun _ => by kernel_rfl, by kernel_rfl⟩
instance : ZeroT Tryz.prog 188 [.nilFunc] := ⟨by kernel_rfl⟩
instance : TyOne Tryz.prog 189 := ⟨fun _ => by kernel_rfl, by kernel_rfl⟩
instance : ZeroT Tryz.prog 189 [.nilFunc] := ⟨by kernel_rfl⟩
instance : TyOne Tryz.prog 190 := ⟨fun _ => by kernel_rfl, by kernel_rfl⟩
instance : ZeroT Tryz.prog 190 [.nilFunc] := ⟨by kernel_rfl⟩
instance : TyOne Tryz.prog 191 := ⟨fun _ => by kernel_rfl, by kernel_rfl⟩
instance : ZeroT Tryz.prog 191 [.nilFunc] := ⟨by kernel_rfl⟩
instance : TyOne Tryz.prog 192 := ⟨fun _ => by kernel_rfl, by kernel_rfl⟩
instance : ZeroT Tryz.prog 192 [.nilFunc] := ⟨by kernel_rfl⟩
instance : TyOne Tryz.prog 193 := ⟨fun _ => by kernel_rfl, by kernel_rfl⟩
instance : ZeroT Tryz.prog 193 [.nilFunc] := ⟨by kernel_rfl⟩
instance : TyOne Tryz.prog 194 := ⟨fun _ => by kernel_rfl, by kernel_rfl⟩
instance : ZeroT Tryz.prog 194 [.nilFunc] := ⟨by kernel_rfl⟩
instance : TyOne Tryz.prog 195 := ⟨fun _ => by kernel_rfl, by kernel_rfl⟩
instance : ZeroT Tryz.prog 195 [.nilFunc] := ⟨by kernel_rfl⟩
instance : TyOne Tryz.prog 196 := ⟨fun _ => by kernel_rfl, by kernel_rfl⟩
instance : ZeroT Tryz.prog 196 [.nilFunc] := ⟨by kernel_rfl⟩
instance : TyOne Tryz.prog 197 := ⟨fun _ => by kernel_rfl, by kernel_rfl⟩
instance : ZeroT Tryz.prog 197 [.nilFunc] := ⟨by kernel_rfl⟩
instance : TyOne Tryz.prog 198 := ⟨fun _ => by kernel_rfl, by kernel_rfl⟩
instance : ZeroT Tryz.prog 198 [.nilFunc] := ⟨by kernel_rfl⟩
instance : TyOne Tryz.prog 199 := ⟨fun _ => by kernel_rfl, by kernel_rfl⟩
instance : ZeroT Tryz.prog 199 [.nilFunc] := ⟨by kernel_rfl⟩
instance : TyOne Tryz.prog 200 := ⟨fun _ => by kernel_rfl, by kernel_rfl⟩
instance : ZeroT Tryz.prog 200 [.nilFunc] := ⟨by kernel_rfl⟩
instance : TyOne Tryz.prog 201 := ⟨fun _ => by kernel_rfl, by kernel_rfl⟩
instance : ZeroT Tryz.prog 201 [.nilFunc] := ⟨by kernel_rfl⟩
instance : TyOne Tryz.prog 202 := ⟨fun _ => by kernel_rfl, by kernel_rfl⟩
instance : ZeroT Tryz.prog 202 [.nilFunc] := ⟨by kernel_rfl⟩
instance : TyOne Tryz.prog 203 := ⟨fun _ => by kernel_rfl, by kernel_rfl⟩
instance : ZeroT Tryz.prog 203 [.nilFunc] := ⟨by kernel_rfl⟩
instance : TyOne Tryz.prog 204 := ⟨fun _ => by kernel_rfl, by kernel_rfl⟩
instance : ZeroT Tryz.prog 204 [.nilFunc] := ⟨by kernel_rfl⟩
instance : TyOne Tryz.prog 205 := ⟨fun _ => by kernel_rfl, by kernel_rfl⟩
instance : ZeroT Tryz.prog 205 [.nilFunc] := ⟨by kernel_rfl⟩
instance : TyOne Tryz.prog 206 := ⟨fun _ => by kernel_rfl, by kernel_rfl⟩
instance : ZeroT Tryz.prog 206 [.nilFunc] := ⟨by kernel_rfl⟩
instance : TyOne Tryz.prog 207 := ⟨fun _ => by kernel_rfl, by kernel_rfl⟩
instance : ZeroT Tryz.prog 207 [.nilFunc] := ⟨by kernel_rfl⟩
instance : TyOne Tryz.prog 208 := ⟨fun _ => by kernel_rfl, by kernel_rfl⟩
instance : ZeroT Tryz.prog 208 [.nilFunc] := ⟨by kernel_rfl⟩
instance : TyOne Tryz.prog 209 := ⟨fun _ => by kernel_rfl, by kernel_rfl⟩
instance : ZeroT Tryz.prog 209 [.nilFunc] := ⟨by kernel_rfl⟩
instance : TyOne Tryz.prog 210 := ⟨fun _ => by kernel_rfl, by kernel_rfl⟩
instance : ZeroT Tryz.prog 210 [.nilFunc] := ⟨by kernel_rfl⟩
instance : TyOne Tryz.prog 211 := ⟨fun _ => by kernel_rfl, by kernel_rfl⟩
instance : ZeroT Tryz.prog 211 [.nilFunc] := ⟨by kernel_rfl⟩
instance : TyOne Tryz.prog 212 := ⟨fun _ => by kernel_rfl, by kernel_rfl⟩
instance : ZeroT Tryz.prog 212 [.nilFunc] := ⟨by kernel_rfl⟩
instance : TyOne Tryz.prog 213 := ⟨fun _ => by kernel_rfl, by kernel_rfl⟩
instance : ZeroT Tryz.prog 213 [.nilFunc] := ⟨by kernel_rfl⟩
instance : TyAgg Tryz.prog 214 2 := ⟨fun _ => by kernel_rfl, by kernel_rfl⟩
instance : Fld Tryz.prog 214 0 0 := Fld.of 0 (by kernel_rfl)
instance : Fld Tryz.prog 214 1 1 := Fld.of 0 (by kernel_rfl)
instance : TyStruct Tryz.prog 214 [(0, 1), (1, 1)] := ⟨by kernel_rfl⟩
instance : ZeroT Tryz.prog 214 [.int .i64 0, .slice none 0 0] := ⟨by kernel_rfl⟩
instance : TyAgg Tryz.prog 215 2 := ⟨fun _ => by kernel_rfl, by kernel_rfl⟩
instance : Fld Tryz.prog 215 0 0 := Fld.of 0 (by kernel_rfl)
instance : Fld Tryz.prog 215 1 1 := Fld.of 0 (by kernel_rfl)
instance : TyStruct Tryz.prog 215 [(0, 1), (1, 1)] := ⟨by kernel_rfl⟩
instance : ZeroT Tryz.prog 215 [.int .i64 0, .slice none 0 0] := ⟨by kernel_rfl⟩
instance : TyOne Tryz.prog 216 := ⟨fun _ => by kernel_rfl, by kernel_rfl⟩
instance : ZeroT Tryz.prog 216 [.nilFunc] := ⟨by kernel_rfl⟩
instance : TyOne Tryz.prog 217 := ⟨fun _ => by kernel_rfl, by kernel_rfl⟩
instance : ZeroT Tryz.prog 217 [.nilFunc] := ⟨by kernel_rfl⟩
instance : TyOne Tryz.prog 218 := ⟨fun _ => by kernel_rfl, by kernel_rfl⟩
instance : ZeroT Tryz.prog 218 [.nilFunc] := ⟨by kernel_rfl⟩
instance : TyOne Tryz.prog 219 := ⟨fun _ => by kernel_rfl, by kernel_rfl⟩
instance : ZeroT Tryz.prog 219 [.nilFunc] := ⟨by kernel_rfl⟩
instance : TyOne Tryz.prog 220 := ⟨fun _ => by kernel_rfl, by kernel_rfl⟩
instance : ZeroT Tryz.prog 220 [.nilFunc] := ⟨by kernel_rfl⟩
instance : TyOne Tryz.prog 221 := ⟨fun _ => by kernel_rfl, by kernel_rfl⟩
instance : ZeroT Tryz.prog 221 [.nilFunc] := ⟨by kernel_rfl⟩
instance : TyOne Tryz.prog 222 := ⟨fun _ => by kernel_rfl, by kernel_rfl⟩
instance : ZeroT Tryz.prog 222 [.nilFunc] := ⟨by kernel_rfl⟩
instance : TyAgg Tryz.prog 223 2 := ⟨fun _ => by kernel_rfl, by kernel_rfl⟩
instance : Fld Tryz.prog 223 0 0 := Fld.of 0 (by kernel_rfl)
instance : Fld Tryz.prog 223 1 1 := Fld.of 0 (by kernel_rfl)
instance : TyStruct Tryz.prog 223 [(0, 1), (1, 1)] := ⟨by kernel_rfl⟩
instance : ZeroT Tryz.prog 223 [.int .i64 0, .int .i64 0] := ⟨by kernel_rfl⟩
instance : TyAgg Tryz.prog 224 2 := ⟨fun _ => by kernel_rfl, by kernel_rfl⟩
instance : Fld Tryz.prog 224 0 0 := Fld.of 0 (by kernel_rfl)
instance : Fld Tryz.prog 224 1 1 := Fld.of 0 (by kernel_rfl)
instance : TyStruct Tryz.prog 224 [(0, 1), (1, 1)] := ⟨by kernel_rfl⟩
instance : ZeroT Tryz.prog 224 [.int .i64 0, .int .i64 0] := ⟨by kernel_rfl⟩
instance : TyOne Tryz.prog 225 := ⟨fun _ => by kernel_rfl, by kernel_rfl⟩
instance : ZeroT Tryz.prog 225 [.nilFunc] := ⟨by kernel_rfl⟩
instance : TyOne Tryz.prog 226 := ⟨fun _ => by kernel_rfl, by kernel_rfl⟩
instance : ZeroT Tryz.prog 226 [.nilFunc] := ⟨by kernel_rfl⟩
instance : TyOne Tryz.prog 228 := ⟨fun _ => by kernel_rfl, by kernel_rfl⟩
instance : ZeroT Tryz.prog 228 [.nilFunc] := ⟨by kernel_rfl⟩
instance : TyOne Tryz.prog 229 := ⟨fun _ => by kernel_rfl, by kernel_rfl⟩
instance : TyInt Tryz.prog 229 .u64 := ⟨by kernel_rfl⟩
instance : ZeroT Tryz.prog 229 [.int .u64 0] := ⟨by kernel_rfl⟩
instance : TyOne Tryz.prog 230 := ⟨fun _ => by kernel_rfl, by kernel_rfl⟩
instance : ZeroT Tryz.prog 230 [.nilFunc] := ⟨by kernel_rfl⟩
instance : TyOne Tryz.prog 231 := ⟨fun _ => by kernel_rfl, by kernel_rfl⟩
instance : ZeroT Tryz.prog 231 [.nilFunc] := ⟨by kernel_rfl⟩
instance : TyOne Tryz.prog 232 := ⟨fun _ => by kernel_rfl, by kernel_rfl⟩
instance : ZeroT Tryz.prog 232 [.nilFunc] := ⟨by kernel_rfl⟩
instance : TyOne Tryz.prog 233 := ⟨fun _ => by kernel_rfl, by kernel_rfl⟩
instance : TyPtr Tryz.prog 233 := ⟨⟨3, by kernel_rfl⟩⟩
instance : ZeroT Tryz.prog 233 [.pointer none] := ⟨by kernel_rfl⟩
instance : TyOne Tryz.prog 234 := ⟨fun _ => by kernel_rfl, by kernel_rfl⟩
instance : ZeroT Tryz.prog 234 [.nilFunc] := ⟨by kernel_rfl⟩
instance : TyOne Tryz.prog 235 := ⟨fun _ => by kernel_rfl, by kernel_rfl⟩
instance : ZeroT Tryz.prog 235 [.nilFunc] := ⟨by kernel_rfl⟩
instance : TyOne Tryz.prog 236 := ⟨fun _ => by kernel_rfl, by kernel_rfl⟩
instance : ZeroT Tryz.prog 236 [.nilFunc] := ⟨by kernel_rfl⟩
instance : TyOne Tryz.prog 237 := ⟨fun _ => by kernel_rfl, by kernel_rfl⟩
instance : TySl Tryz.prog 237 241 4 40 [.int .i64 0, .string ⟨#[]⟩, .int .i64 0, .int .i64 0] := ⟨by kernel_rfl, by kernel_rfl, by decide, by decide⟩
instance : ZeroT Tryz.prog 237 [.slice none 0 0] := ⟨by kernel_rfl⟩
instance : TyOne Tryz.prog 239 := ⟨fun _ => by kernel_rfl, by kernel_rfl⟩
instance : ZeroT Tryz.prog 239 [.nilFunc] := ⟨by kernel_rfl⟩
instance : TyAgg Tryz.prog 240 4 := ⟨fun _ => by kernel_rfl, by kernel_rfl⟩
instance : Fld Tryz.prog 240 0 0 := Fld.of 0 (by kernel_rfl)
instance : Fld Tryz.prog 240 1 1 := Fld.of 0 (by kernel_rfl)
instance : Fld Tryz.prog 240 2 2 := Fld.of 0 (by kernel_rfl)
instance : Fld Tryz.prog 240 3 3 := Fld.of 0 (by kernel_rfl)
instance : TyStruct Tryz.prog 240 [(0, 1), (1, 1), (2, 1), (3, 1)] := ⟨by kernel_rfl⟩
instance : ZeroT Tryz.prog 240 [.int .i64 0, .string ⟨#[]⟩, .int .i64 0, .int .i64 0] := ⟨by kernel_rfl⟩
instance : TyAgg Tryz.prog 241 4 := ⟨fun _ => by kernel_rfl, by kernel_rfl⟩
instance : Fld Tryz.prog 241 0 0 := Fld.of 0 (by kernel_rfl)
instance : Fld Tryz.prog 241 1 1 := Fld.of 0 (by kernel_rfl)
instance : Fld Tryz.prog 241 2 2 := Fld.of 0 (by kernel_rfl)
instance : Fld Tryz.prog 241 3 3 := Fld.of 0 (by kernel_rfl)
instance : TyStruct Tryz.prog 241 [(0, 1), (1, 1), (2, 1), (3, 1)] := ⟨by kernel_rfl⟩
instance : ZeroT Tryz.prog 241 [.int .i64 0, .string ⟨#[]⟩, .int .i64 0, .int .i64 0] := ⟨by kernel_rfl⟩
instance : TyOne Tryz.prog 242 := ⟨fun _ => by kernel_rfl, by kernel_rfl⟩
instance : TyMap Tryz.prog 242 9 4 := ⟨by kernel_rfl⟩
instance : ZeroT Tryz.prog 242 [.map none] := ⟨by kernel_rfl⟩
instance : TyOne Tryz.prog 243 := ⟨fun _ => by kernel_rfl, by kernel_rfl⟩
instance : ZeroT Tryz.prog 243 [.nilFunc] := ⟨by kernel_rfl⟩
instance : TyOne Tryz.prog 244 := ⟨fun _ => by kernel_rfl, by kernel_rfl⟩
instance : ZeroT Tryz.prog 244 [.nilFunc] := ⟨by kernel_rfl⟩
instance : TyOne Tryz.prog 245 := ⟨fun _ => by kernel_rfl, by kernel_rfl⟩
instance : ZeroT Tryz.prog 245 [.nilFunc] := ⟨by kernel_rfl⟩
instance : TyOne Tryz.prog 246 := ⟨fun _ => by kernel_rfl, by kernel_rfl⟩
instance : ZeroT Tryz.prog 246 [.nilFunc] := ⟨by kernel_rfl⟩
instance : TyOne Tryz.prog 247 := ⟨fun _ => by kernel_rfl, by kernel_rfl⟩
instance : TyPtr Tryz.prog 247 := ⟨⟨138, by kernel_rfl⟩⟩
instance : ZeroT Tryz.prog 247 [.pointer none] := ⟨by kernel_rfl⟩
instance : TyOne Tryz.prog 249 := ⟨fun _ => by kernel_rfl, by kernel_rfl⟩
instance : ZeroT Tryz.prog 249 [.nilFunc] := ⟨by kernel_rfl⟩
instance : TyOne Tryz.prog 250 := ⟨fun _ => by kernel_rfl, by kernel_rfl⟩
instance : ZeroT Tryz.prog 250 [.nilFunc] := ⟨by kernel_rfl⟩
instance : TyOne Tryz.prog 251 := ⟨fun _ => by kernel_rfl, by kernel_rfl⟩
instance : ZeroT Tryz.prog 251 [.nilFunc] := ⟨by kernel_rfl⟩
instance : TyOne Tryz.prog 252 := ⟨fun _ => by kernel_rfl, by kernel_rfl⟩
instance : ZeroT Tryz.prog 252 [.nilFunc] := ⟨by kernel_rfl⟩
instance : TyOne Tryz.prog 254 := ⟨fun _ => by kernel_rfl, by kernel_rfl⟩
instance : ZeroT Tryz.prog 254 [.nilFunc] := ⟨by kernel_rfl⟩
instance : TyOne Tryz.prog 255 := ⟨fun _ => by kernel_rfl, by kernel_rfl⟩
instance : ZeroT Tryz.prog 255 [.nilFunc] := ⟨by kernel_rfl⟩
instance : TyOne Tryz.prog 256 := ⟨fun _ => by kernel_rfl, by kernel_rfl⟩
instance : TyPtr Tryz.prog 256 := ⟨⟨229, by kernel_rfl⟩⟩
instance : ZeroT Tryz.prog 256 [.pointer none] := ⟨by kernel_rfl⟩
instance : TyOne Tryz.prog 258 := ⟨fun _ => by kernel_rfl, by kernel_rfl⟩
instance : ZeroT Tryz.prog 258 [.nilFunc] := ⟨by kernel_rfl⟩
instance : TyOne Tryz.prog 259 := ⟨fun _ => by kernel_rfl, by kernel_rfl⟩
instance : ZeroT Tryz.prog 259 [.nilFunc] := ⟨by kernel_rfl⟩
instance : TyOne Tryz.prog 260 := ⟨fun _ => by kernel_rfl, by kernel_rfl⟩
instance : ZeroT Tryz.prog 260 [.nilFunc] := ⟨by kernel_rfl⟩
instance : TyOne Tryz.prog 261 := ⟨fun _ => by kernel_rfl, by kernel_rfl⟩
instance : ZeroT Tryz.prog 261 [.nilFunc] := ⟨by kernel_rfl⟩
instance : TyOne Tryz.prog 262 := ⟨fun _ => by kernel_rfl, by kernel_rfl⟩
instance : ZeroT Tryz.prog 262 [.nilFunc] := ⟨by kernel_rfl⟩
instance : TyOne Tryz.prog 263 := ⟨fun _ => by kernel_rfl, by kernel_rfl⟩
instance : ZeroT Tryz.prog 263 [.nilFunc] := ⟨by kernel_rfl⟩
instance : TyOne Tryz.prog 264 := ⟨fun _ => by kernel_rfl, by kernel_rfl⟩
instance : ZeroT Tryz.prog 264 [.nilFunc] := ⟨by kernel_rfl⟩
instance : TyOne Tryz.prog 265 := ⟨fun _ => by kernel_rfl, by kernel_rfl⟩
instance : ZeroT Tryz.prog 265 [.nilFunc] := ⟨by kernel_rfl⟩
instance : TyOne Tryz.prog 266 := ⟨fun _ => by kernel_rfl, by kernel_rfl⟩
instance : ZeroT Tryz.prog 266 [.nilFunc] := ⟨by kernel_rfl⟩
instance : TyOne Tryz.prog 267 := ⟨fun _ => by kernel_rfl, by kernel_rfl⟩
instance : ZeroT Tryz.prog 267 [.nilFunc] := ⟨by kernel_rfl⟩
instance : TyOne Tryz.prog 268 := ⟨fun _ => by kernel_rfl, by kernel_rfl⟩
instance : ZeroT Tryz.prog 268 [.nilFunc] := ⟨by kernel_rfl⟩
instance : TyOne Tryz.prog 269 := ⟨fun _ => by kernel_rfl, by kernel_rfl⟩
instance : ZeroT Tryz.prog 269 [.nilFunc] := ⟨by kernel_rfl⟩
instance : TyOne Tryz.prog 270 := ⟨fun _ => by kernel_rfl, by kernel_rfl⟩
instance : ZeroT Tryz.prog 270 [.nilFunc] := ⟨by kernel_rfl⟩
instance : TyOne Tryz.prog 271 := ⟨fun _ => by kernel_rfl, by kernel_rfl⟩
instance : ZeroT Tryz.prog 271 [.nilFunc] := ⟨by kernel_rfl⟩
instance : TyOne Tryz.prog 272 := ⟨fun _ => by kernel_rfl, by kernel_rfl⟩
instance : ZeroT Tryz.prog 272 [.nilFunc] := ⟨by kernel_rfl⟩
instance : TyOne Tryz.prog 274 := ⟨fun _ => by kernel_rfl, by kernel_rfl⟩
instance : ZeroT Tryz.prog 274 [.nilFunc] := ⟨by kernel_rfl⟩
instance : TyOne Tryz.prog 275 := ⟨fun _ => by kernel_rfl, by kernel_rfl⟩
instance : ZeroT Tryz.prog 275 [.nilFunc] := ⟨by kernel_rfl⟩
instance : TyOne Tryz.prog 276 := ⟨fun _ => by kernel_rfl, by kernel_rfl⟩
instance : ZeroT Tryz.prog 276 [.nilFunc] := ⟨by kernel_rfl⟩
instance : TyOne Tryz.prog 277 := ⟨fun _ => by kernel_rfl, by kernel_rfl⟩
instance : ZeroT Tryz.prog 277 [.nilFunc] := ⟨by kernel_rfl⟩
instance : TyOne Tryz.prog 278 := ⟨fun _ => by kernel_rfl, by kernel_rfl⟩
instance : ZeroT Tryz.prog 278 [.nilFunc] := ⟨by kernel_rfl⟩
instance : TyOne Tryz.prog 279 := ⟨fun _ => by kernel_rfl, by kernel_rfl⟩
instance : ZeroT Tryz.prog 279 [.nilFunc] := ⟨by kernel_rfl⟩
instance : TyOne Tryz.prog 280 := ⟨fun _ => by kernel_rfl, by kernel_rfl⟩
instance : TySl Tryz.prog 280 187 1 8 [.int .u64 0] := ⟨by kernel_rfl, by kernel_rfl, by decide, by decide⟩
instance : ZeroT Tryz.prog 280 [.slice none 0 0] := ⟨by kernel_rfl⟩
instance : TyOne Tryz.prog 282 := ⟨fun _ => by kernel_rfl, by kernel_rfl⟩
instance : ZeroT Tryz.prog 282 [.nilFunc] := ⟨by kernel_rfl⟩
instance : TyOne Tryz.prog 283 := ⟨fun _ => by kernel_rfl, by kernel_rfl⟩
instance : ZeroT Tryz.prog 283 [.nilFunc] := ⟨by kernel_rfl⟩
instance : TyOne Tryz.prog 284 := ⟨fun _ => by kernel_rfl, by kernel_rfl⟩
instance : ZeroT Tryz.prog 284 [.nilFunc] := ⟨by kernel_rfl⟩
instance : TyOne Tryz.prog 285 := ⟨fun _ => by kernel_rfl, by kernel_rfl⟩
instance : ZeroT Tryz.prog 285 [.nilFunc] := ⟨by kernel_rfl⟩
instance : TyOne Tryz.prog 286 := ⟨fun _ => by kernel_rfl, by kernel_rfl⟩
instance : ZeroT Tryz.prog 286 [.nilFunc] := ⟨by kernel_rfl⟩
instance : TyOne Tryz.prog 287 := ⟨fun _ => by kernel_rfl, by kernel_rfl⟩
instance : ZeroT Tryz.prog 287 [.nilFunc] := ⟨by kernel_rfl⟩
instance : TyOne Tryz.prog 288 := ⟨fun _ => by kernel_rfl, by kernel_rfl⟩
instance : ZeroT Tryz.prog 288 [.nilFunc] := ⟨by kernel_rfl⟩
instance : TyOne Tryz.prog 289 := ⟨fun _ => by kernel_rfl, by kernel_rfl⟩
instance : ZeroT Tryz.prog 289 [.nilFunc] := ⟨by kernel_rfl⟩
instance : TyOne Tryz.prog 290 := ⟨fun _ => by kernel_rfl, by kernel_rfl⟩
instance : ZeroT Tryz.prog 290 [.nilFunc] := ⟨by kernel_rfl⟩
instance : TyOne Tryz.prog 291 := ⟨fun _ => by kernel_rfl, by kernel_rfl⟩
instance : ZeroT Tryz.prog 291 [.nilFunc] := ⟨by kernel_rfl⟩
instance : TyOne Tryz.prog 293 := ⟨fun _ => by kernel_rfl, by kernel_rfl⟩
instance : ZeroT Tryz.prog 293 [.nilFunc] := ⟨by kernel_rfl⟩
instance : TyOne Tryz.prog 294 := ⟨fun _ => by kernel_rfl, by kernel_rfl⟩
instance : ZeroT Tryz.prog 294 [.nilFunc] := ⟨by kernel_rfl⟩
instance : TyOne Tryz.prog 295 := ⟨fun _ => by kernel_rfl, by kernel_rfl⟩
instance : ZeroT Tryz.prog 295 [.nilFunc] := ⟨by kernel_rfl⟩
instance : TyOne Tryz.prog 296 := ⟨fun _ => by kernel_rfl, by kernel_rfl⟩
instance : ZeroT Tryz.prog 296 [.nilFunc] := ⟨by kernel_rfl⟩
instance : TyAgg Tryz.prog 297 128 := ⟨fun _ => by kernel_rfl, by kernel_rfl⟩
instance : ZeroT Tryz.prog 297 [.int .u8 0, .int .u8 0, .int .u8 0, .int .u8 0, .int .u8 0, .int .u8 0, .int .u8 0, .int .u8 0, .int .u8 0, .int .u8 0, .int .u8 0, .int .u8 0, .int .u8 0, .int .u8 0, .int .u8 0, .int .u8 0, .int .u8 0, .int .u8 0, .int .u8 0, .int .u8 0, .int .u8 0, .int .u8 0, .int .u8 0, .int .u8 0, .int .u8 0, .int .u8 0, .int .u8 0, .int .u8 0, .int .u8 0, .int .u8 0, .int .u8 0, .int .u8 0, .int .u8 0, .int .u8 0, .int .u8 0, .int .u8 0, .int .u8 0, .int .u8 0, .int .u8 0, .int .u8 0, .int .u8 0, .int .u8 0, .int .u8 0, .int .u8 0, .int .u8 0, .int .u8 0, .int .u8 0, .int .u8 0, .int .u8 0, .int .u8 0, .int .u8 0, .int .u8 0, .int .u8 0, .int .u8 0, .int .u8 0, .int .u8 0, .int .u8 0, .int .u8 0, .int .u8 0, .int .u8 0, .int .u8 0, .int .u8 0, .int .u8 0, .int .u8 0, .int .u8 0, .int .u8 0, .int .u8 0, .int .u8 0, .int .u8 0, .int .u8 0, .int .u8 0, .int .u8 0, .int .u8 0, .int .u8 0, .int .u8 0, .int .u8 0, .int .u8 0, .int .u8 0, .int .u8 0, .int .u8 0, .int .u8 0, .int .u8 0, .int .u8 0, .int .u8 0, .int .u8 0, .int .u8 0, .int .u8 0, .int .u8 0, .int .u8 0, .int .u8 0, .int .u8 0, .int .u8 0, .int .u8 0, .int .u8 0, .int .u8 0, .int .u8 0, .int .u8 0, .int .u8 0, .int .u8 0, .int .u8 0, .int .u8 0, .int .u8 0, .int .u8 0, .int .u8 0, .int .u8 0, .int .u8 0, .int .u8 0, .int .u8 0, .int .u8 0, .int .u8 0, .int .u8 0, .int .u8 0, .int .u8 0, .int .u8 0, .int .u8 0, .int .u8 0, .int .u8 0, .int .u8 0, .int .u8 0, .int .u8 0, .int .u8 0, .int .u8 0, .int .u8 0, .int .u8 0, .int .u8 0, .int .u8 0, .int .u8 0, .int .u8 0] := ⟨by kernel_rfl⟩
instance : TyOne Tryz.prog 298 := ⟨fun _ => by kernel_rfl, by kernel_rfl⟩
instance : ZeroT Tryz.prog 298 [.nilFunc] := ⟨by kernel_rfl⟩
instance : TyOne Tryz.prog 299 := ⟨fun _ => by kernel_rfl, by kernel_rfl⟩
instance : ZeroT Tryz.prog 299 [.nilIface] := ⟨by kernel_rfl⟩
instance : TyOne Tryz.prog 300 := ⟨fun _ => by kernel_rfl, by kernel_rfl⟩
instance : ZeroT Tryz.prog 300 [.nilIface] := ⟨by kernel_rfl⟩
instance : TyOne Tryz.prog 301 := ⟨fun _ => by kernel_rfl, by kernel_rfl⟩
instance : ZeroT Tryz.prog 301 [.nilFunc] := ⟨by kernel_rfl⟩
instance : TyOne Tryz.prog 302 := ⟨fun _ => by kernel_rfl, by kernel_rfl⟩
instance : ZeroT Tryz.prog 302 [.nilFunc] := ⟨by kernel_rfl⟩
instance : TyOne Tryz.prog 303 := ⟨fun _ => by kernel_rfl, by kernel_rfl⟩
instance : ZeroT Tryz.prog 303 [.nilFunc] := ⟨by kernel_rfl⟩
instance : TyOne Tryz.prog 304 := ⟨fun _ => by kernel_rfl, by kernel_rfl⟩
instance : ZeroT Tryz.prog 304 [.nilFunc] := ⟨by kernel_rfl⟩
instance : TyOne Tryz.prog 305 := ⟨fun _ => by kernel_rfl, by kernel_rfl⟩
instance : ZeroT Tryz.prog 305 [.nilFunc] := ⟨by kernel_rfl⟩
instance : TyOne Tryz.prog 306 := ⟨fun _ => by kernel_rfl, by kernel_rfl⟩
instance : ZeroT Tryz.prog 306 [.nilFunc] := ⟨by kernel_rfl⟩
instance : TyOne Tryz.prog 307 := ⟨fun _ => by kernel_rfl, by kernel_rfl⟩
instance : ZeroT Tryz.prog 307 [.nilFunc] := ⟨by kernel_rfl⟩
instance : TyOne Tryz.prog 308 := ⟨fun _ => by kernel_rfl, by kernel_rfl⟩
instance : ZeroT Tryz.prog 308 [.nilFunc] := ⟨by kernel_rfl⟩
instance : TyOne Tryz.prog 309 := ⟨fun _ => by kernel_rfl, by kernel_rfl⟩
instance : TyPtr Tryz.prog 309 := ⟨⟨325, by kernel_rfl⟩⟩
instance : ZeroT Tryz.prog 309 [.pointer none] := ⟨by kernel_rfl⟩
instance : TyOne Tryz.prog 310 := ⟨fun _ => by kernel_rfl, by kernel_rfl⟩
instance : ZeroT Tryz.prog 310 [.nilFunc] := ⟨by kernel_rfl⟩
instance : TyAgg Tryz.prog 311 4 := ⟨fun _ => by kernel_rfl, by kernel_rfl⟩
instance : Fld Tryz.prog 311 0 0 := Fld.of 0 (by kernel_rfl)
instance : Fld Tryz.prog 311 1 1 := Fld.of 0 (by kernel_rfl)
instance : Fld Tryz.prog 311 2 2 := Fld.of 0 (by kernel_rfl)
instance : Fld Tryz.prog 311 3 3 := Fld.of 0 (by kernel_rfl)
instance : TyStruct Tryz.prog 311 [(0, 1), (1, 1), (2, 1), (3, 1)] := ⟨by kernel_rfl⟩
instance : ZeroT Tryz.prog 311 [.pointer none, .pointer none, .pointer none, .string ⟨#[]⟩] := ⟨by kernel_rfl⟩
instance : TyAgg Tryz.prog 312 4 := ⟨fun _ => by kernel_rfl, by kernel_rfl⟩
instance : Fld Tryz.prog 312 0 0 := Fld.of 0 (by kernel_rfl)
instance : Fld Tryz.prog 312 1 1 := Fld.of 0 (by kernel_rfl)
instance : Fld Tryz.prog 312 2 2 := Fld.of 0 (by kernel_rfl)
instance : Fld Tryz.prog 312 3 3 := Fld.of 0 (by kernel_rfl)
instance : TyStruct Tryz.prog 312 [(0, 1), (1, 1), (2, 1), (3, 1)] := ⟨by kernel_rfl⟩
instance : ZeroT Tryz.prog 312 [.pointer none, .pointer none, .pointer none, .string ⟨#[]⟩] := ⟨by kernel_rfl⟩
instance : TyAgg Tryz.prog 313 0 := ⟨fun _ => by kernel_rfl, by kernel_rfl⟩
instance : ZeroT Tryz.prog 313 [] := ⟨by kernel_rfl⟩
instance : TyAgg Tryz.prog 314 0 := ⟨fun _ => by kernel_rfl, by kernel_rfl⟩
instance : ZeroT Tryz.prog 314 [] := ⟨by kernel_rfl⟩
instance : TyAgg Tryz.prog 315 0 := ⟨fun _ => by kernel_rfl, by kernel_rfl⟩
instance : ZeroT Tryz.prog 315 [] := ⟨by kernel_rfl⟩
instance : TyOne Tryz.prog 316 := ⟨fun _ => by kernel_rfl, by kernel_rfl⟩
instance : TyInt Tryz.prog 316 .u8 := ⟨by kernel_rfl⟩
instance : ZeroT Tryz.prog 316 [.int .u8 0] := ⟨by kernel_rfl⟩
instance : TyOne Tryz.prog 317 := ⟨fun _ => by kernel_rfl, by kernel_rfl⟩
instance : TyInt Tryz.prog 317 .u8 := ⟨by kernel_rfl⟩
instance : ZeroT Tryz.prog 317 [.int .u8 0] := ⟨by kernel_rfl⟩
instance : TyOne Tryz.prog 318 := ⟨fun _ => by kernel_rfl, by kernel_rfl⟩
instance : ZeroT Tryz.prog 318 [.nilFunc] := ⟨by kernel_rfl⟩
instance : TyOne Tryz.prog 319 := ⟨fun _ => by kernel_rfl, by kernel_rfl⟩
instance : TyPtr Tryz.prog 319 := ⟨⟨5, by kernel_rfl⟩⟩
instance : ZeroT Tryz.prog 319 [.pointer none] := ⟨by kernel_rfl⟩
instance : TyOne Tryz.prog 320 := ⟨fun _ => by kernel_rfl, by kernel_rfl⟩
instance : TyInt Tryz.prog 320 .i32 := ⟨by kernel_rfl⟩
instance : ZeroT Tryz.prog 320 [.int .i32 0] := ⟨by kernel_rfl⟩
instance : TyOne Tryz.prog 321 := ⟨fun _ => by kernel_rfl, by kernel_rfl⟩
instance : TyInt Tryz.prog 321 .i32 := ⟨by kernel_rfl⟩
instance : ZeroT Tryz.prog 321 [.int .i32 0] := ⟨by kernel_rfl⟩
instance : TyAgg Tryz.prog 322 11 := ⟨fun _ => by kernel_rfl, by kernel_rfl⟩
instance : Fld Tryz.prog 322 0 0 := Fld.of 0 (by kernel_rfl)
instance : Fld Tryz.prog 322 1 1 := Fld.of 0 (by kernel_rfl)
instance : Fld Tryz.prog 322 2 2 := Fld.of 0 (by kernel_rfl)
instance : Fld Tryz.prog 322 3 3 := Fld.of 0 (by kernel_rfl)
instance : Fld Tryz.prog 322 4 4 := Fld.of 0 (by kernel_rfl)
instance : Fld Tryz.prog 322 5 5 := Fld.of 0 (by kernel_rfl)
instance : Fld Tryz.prog 322 6 6 := Fld.of 0 (by kernel_rfl)
instance : Fld Tryz.prog 322 7 7 := Fld.of 0 (by kernel_rfl)
instance : Fld Tryz.prog 322 8 8 := Fld.of 0 (by kernel_rfl)
instance : Fld Tryz.prog 322 9 9 := Fld.of 0 (by kernel_rfl)
instance : Fld Tryz.prog 322 10 10 := Fld.of 0 (by kernel_rfl)
instance : TyStruct Tryz.prog 322 [(0, 1), (1, 1), (2, 1), (3, 1), (4, 1), (5, 1), (6, 1), (7, 1), (8, 1), (9, 1), (10, 1)] := ⟨by kernel_rfl⟩
instance : ZeroT Tryz.prog 322 [.int .u64 0, .int .u64 0, .int .u32 0, .int .u8 0, .int .u8 0, .int .u8 0, .int .u8 0, .nilFunc, .pointer none, .int .i32 0, .int .i32 0] := ⟨by kernel_rfl⟩
instance : TyAgg Tryz.prog 323 11 := ⟨fun _ => by kernel_rfl, by kernel_rfl⟩
instance : Fld Tryz.prog 323 0 0 := Fld.of 0 (by kernel_rfl)
instance : Fld Tryz.prog 323 1 1 := Fld.of 0 (by kernel_rfl)
instance : Fld Tryz.prog 323 2 2 := Fld.of 0 (by kernel_rfl)
instance : Fld Tryz.prog 323 3 3 := Fld.of 0 (by kernel_rfl)
instance : Fld Tryz.prog 323 4 4 := Fld.of 0 (by kernel_rfl)
instance : Fld Tryz.prog 323 5 5 := Fld.of 0 (by kernel_rfl)
instance : Fld Tryz.prog 323 6 6 := Fld.of 0 (by kernel_rfl)
instance : Fld Tryz.prog 323 7 7 := Fld.of 0 (by kernel_rfl)
instance : Fld Tryz.prog 323 8 8 := Fld.of 0 (by kernel_rfl)
instance : Fld Tryz.prog 323 9 9 := Fld.of 0 (by kernel_rfl)
instance : Fld Tryz.prog 323 10 10 := Fld.of 0 (by kernel_rfl)
instance : TyStruct Tryz.prog 323 [(0, 1), (1, 1), (2, 1), (3, 1), (4, 1), (5, 1), (6, 1), (7, 1), (8, 1), (9, 1), (10, 1)] := ⟨by kernel_rfl⟩
instance : ZeroT Tryz.prog 323 [.int .u64 0, .int .u64 0, .int .u32 0, .int .u8 0, .int .u8 0, .int .u8 0, .int .u8 0, .nilFunc, .pointer none, .int .i32 0, .int .i32 0] := ⟨by kernel_rfl⟩
instance : TyAgg Tryz.prog 324 1 := ⟨fun _ => by kernel_rfl, by kernel_rfl⟩
instance : Fld Tryz.prog 324 0 0 := Fld.of 0 (by kernel_rfl)
instance : TyStruct Tryz.prog 324 [(0, 1)] := ⟨by kernel_rfl⟩
instance : ZeroT Tryz.prog 324 [.string ⟨#[]⟩] := ⟨by kernel_rfl⟩
instance : TyAgg Tryz.prog 325 1 := ⟨fun _ => by kernel_rfl, by kernel_rfl⟩
instance : Fld Tryz.prog 325 0 0 := Fld.of 0 (by kernel_rfl)
instance : TyStruct Tryz.prog 325 [(0, 1)] := ⟨by kernel_rfl⟩
instance : ZeroT Tryz.prog 325 [.string ⟨#[]⟩] := ⟨by kernel_rfl⟩
instance : ZeroT Tryz.prog 326 [.pointer none] := ⟨by kernel_rfl⟩
theorem en2 : Enters Tryz.prog 2 := fun _ _ => by kernel_rfl
theorem en3 : Enters Tryz.prog 3 := fun _ _ => by kernel_rfl
theorem en4 : Enters Tryz.prog 4 := fun _ _ => by kernel_rfl
theorem en5 : Enters Tryz.prog 5 := fun _ _ => by kernel_rfl
theorem en6 : Enters Tryz.prog 6 := fun _ _ => by kernel_rfl
theorem en7 : Enters Tryz.prog 7 := fun _ _ => by kernel_rfl
theorem en8 : Enters Tryz.prog 8 := fun _ _ => by kernel_rfl
theorem en9 : Enters Tryz.prog 9 := fun _ _ => by kernel_rfl
theorem en10 : Enters Tryz.prog 10 := fun _ _ => by kernel_rfl
theorem en11 : Enters Tryz.prog 11 := fun _ _ => by kernel_rfl
theorem en12 : Enters Tryz.prog 12 := fun _ _ => by kernel_rfl
theorem en13 : Enters Tryz.prog 13 := fun _ _ => by kernel_rfl
theorem en14 : Enters Tryz.prog 14 := fun _ _ => by kernel_rfl
theorem en15 : Enters Tryz.prog 15 := fun _ _ => by kernel_rfl
theorem en16 : Enters Tryz.prog 16 := fun _ _ => by kernel_rfl
theorem en17 : Enters Tryz.prog 17 := fun _ _ => by kernel_rfl
theorem en18 : Enters Tryz.prog 18 := fun _ _ => by kernel_rfl
theorem en19 : Enters Tryz.prog 19 := fun _ _ => by kernel_rfl
theorem en20 : Enters Tryz.prog 20 := fun _ _ => by kernel_rfl
theorem en21 : Enters Tryz.prog 21 := fun _ _ => by kernel_rfl
theorem en22 : Enters Tryz.prog 22 := fun _ _ => by kernel_rfl
theorem en23 : Enters Tryz.prog 23 := fun _ _ => by kernel_rfl
theorem en24 : Enters Tryz.prog 24 := fun _ _ => by kernel_rfl
theorem en25 : Enters Tryz.prog 25 := fun _ _ => by kernel_rfl
theorem en26 : Enters Tryz.prog 26 := fun _ _ => by kernel_rfl
theorem en27 : Enters Tryz.prog 27 := fun _ _ => by kernel_rfl
theorem en28 : Enters Tryz.prog 28 := fun _ _ => by kernel_rfl
theorem en29 : Enters Tryz.prog 29 := fun _ _ => by kernel_rfl
theorem en30 : Enters Tryz.prog 30 := fun _ _ => by kernel_rfl
theorem en31 : Enters Tryz.prog 31 := fun _ _ => by kernel_rfl
theorem en32 : Enters Tryz.prog 32 := fun _ _ => by kernel_rfl
theorem en33 : Enters Tryz.prog 33 := fun _ _ => by kernel_rfl
theorem en34 : Enters Tryz.prog 34 := fun _ _ => by kernel_rfl
theorem en35 : Enters Tryz.prog 35 := fun _ _ => by kernel_rfl
theorem en36 : Enters Tryz.prog 36 := fun _ _ => by kernel_rfl
theorem en37 : Enters Tryz.prog 37 := fun _ _ => by kernel_rfl
theorem en38 : Enters Tryz.prog 38 := fun _ _ => by kernel_rfl
theorem en39 : Enters Tryz.prog 39 := fun _ _ => by kernel_rfl
theorem en40 : Enters Tryz.prog 40 := fun _ _ => by kernel_rfl
theorem en41 : Enters Tryz.prog 41 := fun _ _ => by kernel_rfl
theorem en42 : Enters Tryz.prog 42 := fun _ _ => by kernel_rfl
theorem en43 : Enters Tryz.prog 43 := fun _ _ => by kernel_rfl
theorem en44 : Enters Tryz.prog 44 := fun _ _ => by kernel_rfl
theorem en45 : Enters Tryz.prog 45 := fun _ _ => by kernel_rfl
theorem en46 : Enters Tryz.prog 46 := fun _ _ => by kernel_rfl
theorem en47 : Enters Tryz.prog 47 := fun _ _ => by kernel_rfl
theorem en48 : Enters Tryz.prog 48 := fun _ _ => by kernel_rfl
theorem en49 : Enters Tryz.prog 49 := fun _ _ => by kernel_rfl
theorem en50 : Enters Tryz.prog 50 := fun _ _ => by kernel_rfl
theorem en51 : Enters Tryz.prog 51 := fun _ _ => by kernel_rfl
theorem en52 : Enters Tryz.prog 52 := fun _ _ => by kernel_rfl
theorem en53 : Enters Tryz.prog 53 := fun _ _ => by kernel_rfl
theorem en54 : Enters Tryz.prog 54 := fun _ _ => by kernel_rfl
theorem en55 : Enters Tryz.prog 55 := fun _ _ => by kernel_rfl
theorem en56 : Enters Tryz.prog 56 := fun _ _ => by kernel_rfl
theorem en57 : Enters Tryz.prog 57 := fun _ _ => by kernel_rfl
theorem en58 : Enters Tryz.prog 58 := fun _ _ => by kernel_rfl
theorem en59 : Enters Tryz.prog 59 := fun _ _ => by kernel_rfl
theorem en60 : Enters Tryz.prog 60 := fun _ _ => by kernel_rfl
theorem en61 : Enters Tryz.prog 61 := fun _ _ => by kernel_rfl
theorem en62 : Enters Tryz.prog 62 := fun _ _ => by kernel_rfl
theorem en63 : Enters Tryz.prog 63 := fun _ _ => by kernel_rfl
theorem en64 : Enters Tryz.prog 64 := fun _ _ => by kernel_rfl
theorem en65 : Enters Tryz.prog 65 := fun _ _ => by kernel_rfl
theorem en66 : Enters Tryz.prog 66 := fun _ _ => by kernel_rfl
theorem en67 : Enters Tryz.prog 67 := fun _ _ => by kernel_rfl
theorem en68 : Enters Tryz.prog 68 := fun _ _ => by kernel_rfl
theorem en69 : Enters Tryz.prog 69 := fun _ _ => by kernel_rfl
theorem en70 : Enters Tryz.prog 70 := fun _ _ => by kernel_rfl
theorem en71 : Enters Tryz.prog 71 := fun _ _ => by kernel_rfl
theorem en72 : Enters Tryz.prog 72 := fun _ _ => by kernel_rfl
theorem en73 : Enters Tryz.prog 73 := fun _ _ => by kernel_rfl
theorem en74 : Enters Tryz.prog 74 := fun _ _ => by kernel_rfl
theorem en75 : Enters Tryz.prog 75 := fun _ _ => by kernel_rfl
theorem en76 : Enters Tryz.prog 76 := fun _ _ => by kernel_rfl
theorem en77 : Enters Tryz.prog 77 := fun _ _ => by kernel_rfl
theorem en78 : Enters Tryz.prog 78 := fun _ _ => by kernel_rfl
theorem en79 : Enters Tryz.prog 79 := fun _ _ => by kernel_rfl
theorem en80 : Enters Tryz.prog 80 := fun _ _ => by kernel_rfl
theorem en81 : Enters Tryz.prog 81 := fun _ _ => by kernel_rfl
theorem en82 : Enters Tryz.prog 82 := fun _ _ => by kernel_rfl
theorem en83 : Enters Tryz.prog 83 := fun _ _ => by kernel_rfl
theorem en84 : Enters Tryz.prog 84 := fun _ _ => by kernel_rfl
theorem en85 : Enters Tryz.prog 85 := fun _ _ => by kernel_rfl
theorem en86 : Enters Tryz.prog 86 := fun _ _ => by kernel_rfl
theorem en87 : Enters Tryz.prog 87 := fun _ _ => by kernel_rfl
theorem en88 : Enters Tryz.prog 88 := fun _ _ => by kernel_rfl
theorem en89 : Enters Tryz.prog 89 := fun _ _ => by kernel_rfl
theorem en90 : Enters Tryz.prog 90 := fun _ _ => by kernel_rfl
theorem en91 : Enters Tryz.prog 91 := fun _ _ => by kernel_rfl
theorem en92 : Enters Tryz.prog 92 := fun _ _ => by kernel_rfl
theorem en93 : Enters Tryz.prog 93 := fun _ _ => by kernel_rfl
theorem en94 : Enters Tryz.prog 94 := fun _ _ => by kernel_rfl
theorem en95 : Enters Tryz.prog 95 := fun _ _ => by kernel_rfl
theorem en96 : Enters Tryz.prog 96 := fun _ _ => by kernel_rfl
theorem en97 : Enters Tryz.prog 97 := fun _ _ => by kernel_rfl
theorem en98 : Enters Tryz.prog 98 := fun _ _ => by kernel_rfl
theorem en99 : Enters Tryz.prog 99 := fun _ _ => by kernel_rfl
theorem en100 : Enters Tryz.prog 100 := fun _ _ => by kernel_rfl
theorem en101 : Enters Tryz.prog 101 := fun _ _ => by kernel_rfl
theorem en102 : Enters Tryz.prog 102 := fun _ _ => by kernel_rfl
theorem en103 : Enters Tryz.prog 103 := fun _ _ => by kernel_rfl
theorem en104 : Enters Tryz.prog 104 := fun _ _ => by kernel_rfl
theorem en105 : Enters Tryz.prog 105 := fun _ _ => by kernel_rfl
theorem en106 : Enters Tryz.prog 106 := fun _ _ => by kernel_rfl
theorem en107 : Enters Tryz.prog 107 := fun _ _ => by kernel_rfl
theorem en108 : Enters Tryz.prog 108 := fun _ _ => by kernel_rfl
theorem en109 : Enters Tryz.prog 109 := fun _ _ => by kernel_rfl
theorem en110 : Enters Tryz.prog 110 := fun _ _ => by kernel_rfl
theorem en111 : Enters Tryz.prog 111 := fun _ _ => by kernel_rfl
theorem en112 : Enters Tryz.prog 112 := fun _ _ => by kernel_rfl
theorem en113 : Enters Tryz.prog 113 := fun _ _ => by kernel_rfl
theorem en114 : Enters Tryz.prog 114 := fun _ _ => by kernel_rfl
theorem en115 : Enters Tryz.prog 115 := fun _ _ => by kernel_rfl
theorem en116 : Enters Tryz.prog 116 := fun _ _ => by kernel_rfl
theorem en117 : Enters Tryz.prog 117 := fun _ _ => by kernel_rfl
theorem en118 : Enters Tryz.prog 118 := fun _ _ => by kernel_rfl
theorem en119 : Enters Tryz.prog 119 := fun _ _ => by kernel_rfl
theorem en120 : Enters Tryz.prog 120 := fun _ _ => by kernel_rfl
theorem en121 : Enters Tryz.prog 121 := fun _ _ => by kernel_rfl
theorem en122 : Enters Tryz.prog 122 := fun _ _ => by kernel_rfl
theorem en123 : Enters Tryz.prog 123 := fun _ _ => by kernel_rfl
theorem en124 : Enters Tryz.prog 124 := fun _ _ => by kernel_rfl
theorem en125 : Enters Tryz.prog 125 := fun _ _ => by kernel_rfl
theorem en126 : Enters Tryz.prog 126 := fun _ _ => by kernel_rfl
theorem en127 : Enters Tryz.prog 127 := fun _ _ => by kernel_rfl
theorem en128 : Enters Tryz.prog 128 := fun _ _ => by kernel_rfl
theorem en129 : Enters Tryz.prog 129 := fun _ _ => by kernel_rfl
theorem en130 : Enters Tryz.prog 130 := fun _ _ => by kernel_rfl
theorem en131 : Enters Tryz.prog 131 := fun _ _ => by kernel_rfl
theorem en132 : Enters Tryz.prog 132 := fun _ _ => by kernel_rfl
theorem en133 : Enters Tryz.prog 133 := fun _ _ => by kernel_rfl
theorem en134 : Enters Tryz.prog 134 := fun _ _ => by kernel_rfl
theorem en135 : Enters Tryz.prog 135 := fun _ _ => by kernel_rfl
theorem en136 : Enters Tryz.prog 136 := fun _ _ => by kernel_rfl
theorem en137 : Enters Tryz.prog 137 := fun _ _ => by kernel_rfl
theorem en138 : Enters Tryz.prog 138 := fun _ _ => by kernel_rfl
theorem en139 : Enters Tryz.prog 139 := fun _ _ => by kernel_rfl
theorem en140 : Enters Tryz.prog 140 := fun _ _ => by kernel_rfl
theorem en141 : Enters Tryz.prog 141 := fun _ _ => by kernel_rfl
theorem en142 : Enters Tryz.prog 142 := fun _ _ => by kernel_rfl
theorem en143 : Enters Tryz.prog 143 := fun _ _ => by kernel_rfl
theorem en144 : Enters Tryz.prog 144 := fun _ _ => by kernel_rfl
theorem en145 : Enters Tryz.prog 145 := fun _ _ => by kernel_rfl
theorem en146 : Enters Tryz.prog 146 := fun _ _ => by kernel_rfl
theorem en147 : Enters Tryz.prog 147 := fun _ _ => by kernel_rfl
theorem en148 : Enters Tryz.prog 148 := fun _ _ => by kernel_rfl
theorem en149 : Enters Tryz.prog 149 := fun _ _ => by kernel_rfl
theorem en150 : Enters Tryz.prog 150 := fun _ _ => by kernel_rfl
theorem en151 : Enters Tryz.prog 151 := fun _ _ => by kernel_rfl
theorem en152 : Enters Tryz.prog 152 := fun _ _ => by kernel_rfl
theorem en153 : Enters Tryz.prog 153 := fun _ _ => by kernel_rfl
theorem en154 : Enters Tryz.prog 154 := fun _ _ => by kernel_rfl
theorem en155 : Enters Tryz.prog 155 := fun _ _ => by kernel_rfl
theorem en156 : Enters Tryz.prog 156 := fun _ _ => by kernel_rfl
theorem en157 : Enters Tryz.prog 157 := fun _ _ => by kernel_rfl
theorem en158 : Enters Tryz.prog 158 := fun _ _ => by kernel_rfl
theorem en159 : Enters Tryz.prog 159 := fun _ _ => by kernel_rfl
theorem en160 : Enters Tryz.prog 160 := fun _ _ => by kernel_rfl
theorem en161 : Enters Tryz.prog 161 := fun _ _ => by kernel_rfl
theorem en162 : Enters Tryz.prog 162 := fun _ _ => by kernel_rfl
theorem en163 : Enters Tryz.prog 163 := fun _ _ => by kernel_rfl
theorem en164 : Enters Tryz.prog 164 := fun _ _ => by kernel_rfl
theorem en165 : Enters Tryz.prog 165 := fun _ _ => by kernel_rfl
theorem en166 : Enters Tryz.prog 166 := fun _ _ => by kernel_rfl
theorem en167 : Enters Tryz.prog 167 := fun _ _ => by kernel_rfl
theorem en168 : Enters Tryz.prog 168 := fun _ _ => by kernel_rfl
theorem en169 : Enters Tryz.prog 169 := fun _ _ => by kernel_rfl
theorem en170 : Enters Tryz.prog 170 := fun _ _ => by kernel_rfl
theorem en171 : Enters Tryz.prog 171 := fun _ _ => by kernel_rfl
theorem en172 : Enters Tryz.prog 172 := fun _ _ => by kernel_rfl
theorem en173 : Enters Tryz.prog 173 := fun _ _ => by kernel_rfl
theorem en174 : Enters Tryz.prog 174 := fun _ _ => by kernel_rfl
theorem en175 : Enters Tryz.prog 175 := fun _ _ => by kernel_rfl
theorem en176 : Enters Tryz.prog 176 := fun _ _ => by kernel_rfl
theorem en177 : Enters Tryz.prog 177 := fun _ _ => by kernel_rfl
theorem en178 : Enters Tryz.prog 178 := fun _ _ => by kernel_rfl
theorem en179 : Enters Tryz.prog 179 := fun _ _ => by kernel_rfl
theorem en180 : Enters Tryz.prog 180 := fun _ _ => by kernel_rfl
theorem en181 : Enters Tryz.prog 181 := fun _ _ => by kernel_rfl
theorem en182 : Enters Tryz.prog 182 := fun _ _ => by kernel_rfl
theorem en183 : Enters Tryz.prog 183 := fun _ _ => by kernel_rfl
theorem en184 : Enters Tryz.prog 184 := fun _ _ => by kernel_rfl
theorem en185 : Enters Tryz.prog 185 := fun _ _ => by kernel_rfl
theorem en186 : Enters Tryz.prog 186 := fun _ _ => by kernel_rfl
theorem en187 : Enters Tryz.prog 187 := fun _ _ => by kernel_rfl
theorem en188 : Enters Tryz.prog 188 := fun _ _ => by kernel_rfl
theorem en189 : Enters Tryz.prog 189 := fun _ _ => by kernel_rfl
theorem en190 : Enters Tryz.prog 190 := fun _ _ => by kernel_rfl
theorem en191 : Enters Tryz.prog 191 := fun _ _ => by kernel_rfl
theorem en192 : Enters Tryz.prog 192 := fun _ _ => by kernel_rfl
theorem en193 : Enters Tryz.prog 193 := fun _ _ => by kernel_rfl
theorem en194 : Enters Tryz.prog 194 := fun _ _ => by kernel_rfl
theorem en195 : Enters Tryz.prog 195 := fun _ _ => by kernel_rfl
theorem en196 : Enters Tryz.prog 196 := fun _ _ => by kernel_rfl
theorem en197 : Enters Tryz.prog 197 := fun _ _ => by kernel_rfl
theorem en198 : Enters Tryz.prog 198 := fun _ _ => by kernel_rfl
theorem en199 : Enters Tryz.prog 199 := fun _ _ => by kernel_rfl
theorem en200 : Enters Tryz.prog 200 := fun _ _ => by kernel_rfl
theorem en201 : Enters Tryz.prog 201 := fun _ _ => by kernel_rfl
theorem en202 : Enters Tryz.prog 202 := fun _ _ => by kernel_rfl
theorem en203 : Enters Tryz.prog 203 := fun _ _ => by kernel_rfl
theorem en204 : Enters Tryz.prog 204 := fun _ _ => by kernel_rfl
theorem en205 : Enters Tryz.prog 205 := fun _ _ => by kernel_rfl
theorem en206 : Enters Tryz.prog 206 := fun _ _ => by kernel_rfl
theorem en207 : Enters Tryz.prog 207 := fun _ _ => by kernel_rfl
theorem en208 : Enters Tryz.prog 208 := fun _ _ => by kernel_rfl
theorem en209 : Enters Tryz.prog 209 := fun _ _ => by kernel_rfl
theorem en210 : Enters Tryz.prog 210 := fun _ _ => by kernel_rfl
theorem en211 : Enters Tryz.prog 211 := fun _ _ => by kernel_rfl
theorem en212 : Enters Tryz.prog 212 := fun _ _ => by kernel_rfl
theorem en213 : Enters Tryz.prog 213 := fun _ _ => by kernel_rfl
theorem en214 : Enters Tryz.prog 214 := fun _ _ => by kernel_rfl
theorem en215 : Enters Tryz.prog 215 := fun _ _ => by kernel_rfl
theorem en216 : Enters Tryz.prog 216 := fun _ _ => by kernel_rfl
theorem en217 : Enters Tryz.prog 217 := fun _ _ => by kernel_rfl
theorem en218 : Enters Tryz.prog 218 := fun _ _ => by kernel_rfl
theorem en219 : Enters Tryz.prog 219 := fun _ _ => by kernel_rfl
theorem en220 : Enters Tryz.prog 220 := fun _ _ => by kernel_rfl
theorem en221 : Enters Tryz.prog 221 := fun _ _ => by kernel_rfl
theorem en222 : Enters Tryz.prog 222 := fun _ _ => by kernel_rfl
theorem en223 : Enters Tryz.prog 223 := fun _ _ => by kernel_rfl
theorem en224 : Enters Tryz.prog 224 := fun _ _ => by kernel_rfl
theorem en225 : Enters Tryz.prog 225 := fun _ _ => by kernel_rfl
theorem en226 : Enters Tryz.prog 226 := fun _ _ => by kernel_rfl
theorem en227 : Enters Tryz.prog 227 := fun _ _ => by kernel_rfl
theorem en228 : Enters Tryz.prog 228 := fun _ _ => by kernel_rfl
theorem en229 : Enters Tryz.prog 229 := fun _ _ => by kernel_rfl
theorem en230 : Enters Tryz.prog 230 := fun _ _ => by kernel_rfl
theorem en231 : Enters Tryz.prog 231 := fun _ _ => by kernel_rfl
theorem en232 : Enters Tryz.prog 232 := fun _ _ => by kernel_rfl
theorem en233 : Enters Tryz.prog 233 := fun _ _ => by kernel_rfl
theorem en234 : Enters Tryz.prog 234 := fun _ _ => by kernel_rfl
theorem en235 : Enters Tryz.prog 235 := fun _ _ => by kernel_rfl
theorem en236 : Enters Tryz.prog 236 := fun _ _ => by kernel_rfl
theorem en237 : Enters Tryz.prog 237 := fun _ _ => by kernel_rfl
theorem en238 : Enters Tryz.prog 238 := fun _ _ => by kernel_rfl
theorem en239 : Enters Tryz.prog 239 := fun _ _ => by kernel_rfl
theorem en240 : Enters Tryz.prog 240 := fun _ _ => by kernel_rfl
theorem en241 : Enters Tryz.prog 241 := fun _ _ => by kernel_rfl
theorem en242 : Enters Tryz.prog 242 := fun _ _ => by kernel_rfl
theorem en244 : Enters Tryz.prog 244 := fun _ _ => by kernel_rfl
theorem en245 : Enters Tryz.prog 245 := fun _ _ => by kernel_rfl
theorem en246 : Enters Tryz.prog 246 := fun _ _ => by kernel_rfl
theorem en247 : Enters Tryz.prog 247 := fun _ _ => by kernel_rfl
theorem en269 : Enters Tryz.prog 269 := fun _ _ => by kernel_rfl
theorem mixed : Tryz.prog.follows .mixedOrders = true := by kernel_rfl
end Go.Proofs.YtclgjkeeaopppaaGreatDoor
