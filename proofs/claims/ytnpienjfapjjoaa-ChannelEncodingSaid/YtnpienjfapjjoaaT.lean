/- Facts on the tables of the types of this program, each computed by the kernel. -/
import Derived.Test.YtnpienjfapjjoaaV7
import Derived.Test.YtnpienjfapjjoaaProg
import Derived.KernelRfl
namespace Go.Proofs.Ytnpienjfapjjoaa
open Go.V
instance : TyOne Try.prog 1 := ⟨fun _ => by kernel_rfl, by kernel_rfl⟩
instance : ZeroT Try.prog 1 [.nilFunc] := ⟨by kernel_rfl⟩
instance : TyOne Try.prog 2 := ⟨fun _ => by kernel_rfl, by kernel_rfl⟩
instance : TyInt Try.prog 2 .i64 := ⟨by kernel_rfl⟩
instance : ZeroT Try.prog 2 [.int .i64 0] := ⟨by kernel_rfl⟩
instance : TyOne Try.prog 3 := ⟨fun _ => by kernel_rfl, by kernel_rfl⟩
instance : TyInt Try.prog 3 .i64 := ⟨by kernel_rfl⟩
instance : ZeroT Try.prog 3 [.int .i64 0] := ⟨by kernel_rfl⟩
instance : TyOne Try.prog 4 := ⟨fun _ => by kernel_rfl, by kernel_rfl⟩
instance : TyBool Try.prog 4 := ⟨by kernel_rfl⟩
instance : ZeroT Try.prog 4 [.bool false] := ⟨by kernel_rfl⟩
instance : TyOne Try.prog 5 := ⟨fun _ => by kernel_rfl, by kernel_rfl⟩
instance : TyInt Try.prog 5 .u8 := ⟨by kernel_rfl⟩
instance : ZeroT Try.prog 5 [.int .u8 0] := ⟨by kernel_rfl⟩
instance : TyOne Try.prog 6 := ⟨fun _ => by kernel_rfl, by kernel_rfl⟩
instance : TyInt Try.prog 6 .u8 := ⟨by kernel_rfl⟩
instance : ZeroT Try.prog 6 [.int .u8 0] := ⟨by kernel_rfl⟩
instance : TyAgg Try.prog 7 4 := ⟨fun _ => by kernel_rfl, by kernel_rfl⟩
instance : Fld Try.prog 7 0 0 := Fld.of 0 (by kernel_rfl)
instance : Fld Try.prog 7 1 1 := Fld.of 0 (by kernel_rfl)
instance : Fld Try.prog 7 2 2 := Fld.of 0 (by kernel_rfl)
instance : Fld Try.prog 7 3 3 := Fld.of 0 (by kernel_rfl)
instance : TyStruct Try.prog 7 [(0, 1), (1, 1), (2, 1), (3, 1)] := ⟨by kernel_rfl⟩
instance : ZeroT Try.prog 7 [.int .i64 0, .int .i64 0, .bool false, .int .u8 0] := ⟨by kernel_rfl⟩
instance : TyAgg Try.prog 8 4 := ⟨fun _ => by kernel_rfl, by kernel_rfl⟩
instance : Fld Try.prog 8 0 0 := Fld.of 0 (by kernel_rfl)
instance : Fld Try.prog 8 1 1 := Fld.of 0 (by kernel_rfl)
instance : Fld Try.prog 8 2 2 := Fld.of 0 (by kernel_rfl)
instance : Fld Try.prog 8 3 3 := Fld.of 0 (by kernel_rfl)
instance : TyStruct Try.prog 8 [(0, 1), (1, 1), (2, 1), (3, 1)] := ⟨by kernel_rfl⟩
instance : ZeroT Try.prog 8 [.int .i64 0, .int .i64 0, .bool false, .int .u8 0] := ⟨by kernel_rfl⟩
instance : TyOne Try.prog 9 := ⟨fun _ => by kernel_rfl, by kernel_rfl⟩
instance : TyStr Try.prog 9 := ⟨by kernel_rfl⟩
instance : ZeroT Try.prog 9 [.string ⟨#[]⟩] := ⟨by kernel_rfl⟩
instance : TyOne Try.prog 10 := ⟨fun _ => by kernel_rfl, by kernel_rfl⟩
instance : TyStr Try.prog 10 := ⟨by kernel_rfl⟩
instance : ZeroT Try.prog 10 [.string ⟨#[]⟩] := ⟨by kernel_rfl⟩
instance : TyOne Try.prog 11 := ⟨fun _ => by kernel_rfl, by kernel_rfl⟩
instance : TyStr Try.prog 11 := ⟨by kernel_rfl⟩
instance : ZeroT Try.prog 11 [.string ⟨#[]⟩] := ⟨by kernel_rfl⟩
instance : TyOne Try.prog 12 := ⟨fun _ => by kernel_rfl, by kernel_rfl⟩
instance : TyInt Try.prog 12 .u64 := ⟨by kernel_rfl⟩
instance : ZeroT Try.prog 12 [.int .u64 0] := ⟨by kernel_rfl⟩
instance : TyAgg Try.prog 13 2 := ⟨fun _ => by kernel_rfl, by kernel_rfl⟩
instance : Fld Try.prog 13 0 0 := Fld.of 0 (by kernel_rfl)
instance : Fld Try.prog 13 1 1 := Fld.of 0 (by kernel_rfl)
instance : TyStruct Try.prog 13 [(0, 1), (1, 1)] := ⟨by kernel_rfl⟩
instance : ZeroT Try.prog 13 [.string ⟨#[]⟩, .int .u64 0] := ⟨by kernel_rfl⟩
instance : TyAgg Try.prog 14 2 := ⟨fun _ => by kernel_rfl, by kernel_rfl⟩
instance : Fld Try.prog 14 0 0 := Fld.of 0 (by kernel_rfl)
instance : Fld Try.prog 14 1 1 := Fld.of 0 (by kernel_rfl)
instance : TyStruct Try.prog 14 [(0, 1), (1, 1)] := ⟨by kernel_rfl⟩
instance : ZeroT Try.prog 14 [.string ⟨#[]⟩, .int .u64 0] := ⟨by kernel_rfl⟩
instance : TyOne Try.prog 15 := ⟨fun _ => by kernel_rfl, by kernel_rfl⟩
instance : TyPtr Try.prog 15 := ⟨⟨122, by kernel_rfl⟩⟩
instance : ZeroT Try.prog 15 [.pointer none] := ⟨by kernel_rfl⟩
instance : TyOne Try.prog 16 := ⟨fun _ => by kernel_rfl, by kernel_rfl⟩
instance : TyPtr Try.prog 16 := ⟨⟨125, by kernel_rfl⟩⟩
instance : ZeroT Try.prog 16 [.pointer none] := ⟨by kernel_rfl⟩
instance : TyOne Try.prog 17 := ⟨fun _ => by kernel_rfl, by kernel_rfl⟩
instance : TyPtr Try.prog 17 := ⟨⟨134, by kernel_rfl⟩⟩
instance : ZeroT Try.prog 17 [.pointer none] := ⟨by kernel_rfl⟩
instance : TyAgg Try.prog 18 1 := ⟨fun _ => by kernel_rfl, by kernel_rfl⟩
instance : Fld Try.prog 18 0 0 := Fld.of 0 (by kernel_rfl)
instance : TyStruct Try.prog 18 [(0, 1)] := ⟨by kernel_rfl⟩
instance : ZeroT Try.prog 18 [.pointer none] := ⟨by kernel_rfl⟩
instance : TyAgg Try.prog 19 1 := ⟨fun _ => by kernel_rfl, by kernel_rfl⟩
instance : Fld Try.prog 19 0 0 := Fld.of 0 (by kernel_rfl)
instance : TyStruct Try.prog 19 [(0, 1)] := ⟨by kernel_rfl⟩
instance : ZeroT Try.prog 19 [.pointer none] := ⟨by kernel_rfl⟩
instance : TyOne Try.prog 20 := ⟨fun _ => by kernel_rfl, by kernel_rfl⟩
instance : ZeroT Try.prog 20 [.nilIface] := ⟨by kernel_rfl⟩
instance : TyOne Try.prog 21 := ⟨fun _ => by kernel_rfl, by kernel_rfl⟩
instance : TyInt Try.prog 21 .i32 := ⟨by kernel_rfl⟩
instance : ZeroT Try.prog 21 [.int .i32 0] := ⟨by kernel_rfl⟩
instance : TyOne Try.prog 22 := ⟨fun _ => by kernel_rfl, by kernel_rfl⟩
instance : TySl Try.prog 22 3 1 8 [.int .i64 0] := ⟨by kernel_rfl, by kernel_rfl, by decide, by decide⟩
instance : ZeroT Try.prog 22 [.slice none 0 0] := ⟨by kernel_rfl⟩
instance : TyOne Try.prog 23 := ⟨fun _ => by kernel_rfl, by kernel_rfl⟩
instance : TySl Try.prog 23 33 1 8 [.pointer none] := ⟨by kernel_rfl, by kernel_rfl, by decide, by decide⟩
instance : ZeroT Try.prog 23 [.slice none 0 0] := ⟨by kernel_rfl⟩
instance : TyOne Try.prog 24 := ⟨fun _ => by kernel_rfl, by kernel_rfl⟩
instance : ZeroT Try.prog 24 [.nilFunc] := ⟨by kernel_rfl⟩
instance : TyOne Try.prog 25 := ⟨fun _ => by kernel_rfl, by kernel_rfl⟩
instance : TySl Try.prog 25 26 1 8 [.pointer none] := ⟨by kernel_rfl, by kernel_rfl, by decide, by decide⟩
instance : ZeroT Try.prog 25 [.slice none 0 0] := ⟨by kernel_rfl⟩
instance : TyOne Try.prog 26 := ⟨fun _ => by kernel_rfl, by kernel_rfl⟩
instance : TyPtr Try.prog 26 := ⟨⟨50, by kernel_rfl⟩⟩
instance : ZeroT Try.prog 26 [.pointer none] := ⟨by kernel_rfl⟩
instance : TyOne Try.prog 28 := ⟨fun _ => by kernel_rfl, by kernel_rfl⟩
instance : ZeroT Try.prog 28 [.nilFunc] := ⟨by kernel_rfl⟩
instance : TyOne Try.prog 29 := ⟨fun _ => by kernel_rfl, by kernel_rfl⟩
instance : ZeroT Try.prog 29 [.nilFunc] := ⟨by kernel_rfl⟩
instance : TyOne Try.prog 30 := ⟨fun _ => by kernel_rfl, by kernel_rfl⟩
instance : TySl Try.prog 30 40 3 40 [.int .i64 0, .int .i64 0, .slice none 0 0] := ⟨by kernel_rfl, by kernel_rfl, by decide, by decide⟩
instance : ZeroT Try.prog 30 [.slice none 0 0] := ⟨by kernel_rfl⟩
instance : TyOne Try.prog 31 := ⟨fun _ => by kernel_rfl, by kernel_rfl⟩
instance : TySl Try.prog 31 5 1 1 [.int .u8 0] := ⟨by kernel_rfl, by kernel_rfl, by decide, by decide⟩
instance : ZeroT Try.prog 31 [.slice none 0 0] := ⟨by kernel_rfl⟩
instance : TyOne Try.prog 32 := ⟨fun _ => by kernel_rfl, by kernel_rfl⟩
instance : TyInt Try.prog 32 .i64 := ⟨by kernel_rfl⟩
instance : ZeroT Try.prog 32 [.int .i64 0] := ⟨by kernel_rfl⟩
instance : TyOne Try.prog 33 := ⟨fun _ => by kernel_rfl, by kernel_rfl⟩
instance : TyPtr Try.prog 33 := ⟨⟨85, by kernel_rfl⟩⟩
instance : ZeroT Try.prog 33 [.pointer none] := ⟨by kernel_rfl⟩
instance : TyOne Try.prog 34 := ⟨fun _ => by kernel_rfl, by kernel_rfl⟩
instance : ZeroT Try.prog 34 [.nilFunc] := ⟨by kernel_rfl⟩
instance : TyOne Try.prog 35 := ⟨fun _ => by kernel_rfl, by kernel_rfl⟩
instance : TySl Try.prog 35 44 3 40 [.int .i64 0, .int .i64 0, .slice none 0 0] := ⟨by kernel_rfl, by kernel_rfl, by decide, by decide⟩
instance : ZeroT Try.prog 35 [.slice none 0 0] := ⟨by kernel_rfl⟩
instance : TyOne Try.prog 36 := ⟨fun _ => by kernel_rfl, by kernel_rfl⟩
instance : ZeroT Try.prog 36 [.nilFunc] := ⟨by kernel_rfl⟩
instance : TyOne Try.prog 37 := ⟨fun _ => by kernel_rfl, by kernel_rfl⟩
instance : ZeroT Try.prog 37 [.nilFunc] := ⟨by kernel_rfl⟩
instance : TyOne Try.prog 38 := ⟨fun _ => by kernel_rfl, by kernel_rfl⟩
instance : ZeroT Try.prog 38 [.nilFunc] := ⟨by kernel_rfl⟩
instance : TyAgg Try.prog 39 3 := ⟨fun _ => by kernel_rfl, by kernel_rfl⟩
instance : Fld Try.prog 39 0 0 := Fld.of 0 (by kernel_rfl)
instance : Fld Try.prog 39 1 1 := Fld.of 0 (by kernel_rfl)
instance : Fld Try.prog 39 2 2 := Fld.of 0 (by kernel_rfl)
instance : TyStruct Try.prog 39 [(0, 1), (1, 1), (2, 1)] := ⟨by kernel_rfl⟩
instance : ZeroT Try.prog 39 [.int .i64 0, .int .i64 0, .slice none 0 0] := ⟨by kernel_rfl⟩
instance : TyAgg Try.prog 40 3 := ⟨fun _ => by kernel_rfl, by kernel_rfl⟩
instance : Fld Try.prog 40 0 0 := Fld.of 0 (by kernel_rfl)
instance : Fld Try.prog 40 1 1 := Fld.of 0 (by kernel_rfl)
instance : Fld Try.prog 40 2 2 := Fld.of 0 (by kernel_rfl)
instance : TyStruct Try.prog 40 [(0, 1), (1, 1), (2, 1)] := ⟨by kernel_rfl⟩
instance : ZeroT Try.prog 40 [.int .i64 0, .int .i64 0, .slice none 0 0] := ⟨by kernel_rfl⟩
instance : TyOne Try.prog 41 := ⟨fun _ => by kernel_rfl, by kernel_rfl⟩
instance : ZeroT Try.prog 41 [.nilFunc] := ⟨by kernel_rfl⟩
instance : TyOne Try.prog 42 := ⟨fun _ => by kernel_rfl, by kernel_rfl⟩
instance : TySl Try.prog 42 31 1 24 [.slice none 0 0] := ⟨by kernel_rfl, by kernel_rfl, by decide, by decide⟩
instance : ZeroT Try.prog 42 [.slice none 0 0] := ⟨by kernel_rfl⟩
instance : TyOne Try.prog 43 := ⟨fun _ => by kernel_rfl, by kernel_rfl⟩
instance : ZeroT Try.prog 43 [.nilFunc] := ⟨by kernel_rfl⟩
instance : TyAgg Try.prog 44 3 := ⟨fun _ => by kernel_rfl, by kernel_rfl⟩
instance : Fld Try.prog 44 0 0 := Fld.of 0 (by kernel_rfl)
instance : Fld Try.prog 44 1 1 := Fld.of 0 (by kernel_rfl)
instance : Fld Try.prog 44 2 2 := Fld.of 0 (by kernel_rfl)
instance : TyStruct Try.prog 44 [(0, 1), (1, 1), (2, 1)] := ⟨by kernel_rfl⟩
instance : ZeroT Try.prog 44 [.int .i64 0, .int .i64 0, .slice none 0 0] := ⟨by kernel_rfl⟩
instance : TyOne Try.prog 45 := ⟨fun _ => by kernel_rfl, by kernel_rfl⟩
instance : ZeroT Try.prog 45 [.nilFunc] := ⟨by kernel_rfl⟩
instance : TyOne Try.prog 46 := ⟨fun _ => by kernel_rfl, by kernel_rfl⟩
instance : ZeroT Try.prog 46 [.nilFunc] := ⟨by kernel_rfl⟩
instance : TyOne Try.prog 47 := ⟨fun _ => by kernel_rfl, by kernel_rfl⟩
instance : ZeroT Try.prog 47 [.nilFunc] := ⟨by kernel_rfl⟩
instance : TyOne Try.prog 48 := ⟨fun _ => by kernel_rfl, by kernel_rfl⟩
instance : TySl Try.prog 48 92 2 32 [.int .i64 0, .slice none 0 0] := ⟨by kernel_rfl, by kernel_rfl, by decide, by decide⟩
instance : ZeroT Try.prog 48 [.slice none 0 0] := ⟨by kernel_rfl⟩
instance : TyAgg Try.prog 49 6 := ⟨fun _ => by kernel_rfl, by kernel_rfl⟩
instance : Fld Try.prog 49 0 0 := Fld.of 0 (by kernel_rfl)
instance : Fld Try.prog 49 1 1 := Fld.of 0 (by kernel_rfl)
instance : Fld Try.prog 49 2 2 := Fld.of 0 (by kernel_rfl)
instance : Fld Try.prog 49 3 3 := Fld.of 0 (by kernel_rfl)
instance : Fld Try.prog 49 4 4 := Fld.of 0 (by kernel_rfl)
instance : Fld Try.prog 49 5 5 := Fld.of 0 (by kernel_rfl)
instance : TyStruct Try.prog 49 [(0, 1), (1, 1), (2, 1), (3, 1), (4, 1), (5, 1)] := ⟨by kernel_rfl⟩
instance : ZeroT Try.prog 49 [.int .i64 0, .slice none 0 0, .int .i64 0, .int .i64 0, .slice none 0 0, .bool false] := ⟨by kernel_rfl⟩
instance : TyAgg Try.prog 50 6 := ⟨fun _ => by kernel_rfl, by kernel_rfl⟩
instance : Fld Try.prog 50 0 0 := Fld.of 0 (by kernel_rfl)
instance : Fld Try.prog 50 1 1 := Fld.of 0 (by kernel_rfl)
instance : Fld Try.prog 50 2 2 := Fld.of 0 (by kernel_rfl)
instance : Fld Try.prog 50 3 3 := Fld.of 0 (by kernel_rfl)
instance : Fld Try.prog 50 4 4 := Fld.of 0 (by kernel_rfl)
instance : Fld Try.prog 50 5 5 := Fld.of 0 (by kernel_rfl)
instance : TyStruct Try.prog 50 [(0, 1), (1, 1), (2, 1), (3, 1), (4, 1), (5, 1)] := ⟨by kernel_rfl⟩
instance : ZeroT Try.prog 50 [.int .i64 0, .slice none 0 0, .int .i64 0, .int .i64 0, .slice none 0 0, .bool false] := ⟨by kernel_rfl⟩
instance : TyOne Try.prog 51 := ⟨fun _ => by kernel_rfl, by kernel_rfl⟩
instance : ZeroT Try.prog 51 [.nilFunc] := ⟨by kernel_rfl⟩
instance : TyOne Try.prog 52 := ⟨fun _ => by kernel_rfl, by kernel_rfl⟩
instance : ZeroT Try.prog 52 [.nilFunc] := ⟨by kernel_rfl⟩
instance : TyOne Try.prog 53 := ⟨fun _ => by kernel_rfl, by kernel_rfl⟩
instance : TySl Try.prog 53 42 1 24 [.slice none 0 0] := ⟨by kernel_rfl, by kernel_rfl, by decide, by decide⟩
instance : ZeroT Try.prog 53 [.slice none 0 0] := ⟨by kernel_rfl⟩
instance : TyOne Try.prog 54 := ⟨fun _ => by kernel_rfl, by kernel_rfl⟩
instance : ZeroT Try.prog 54 [.nilFunc] := ⟨by kernel_rfl⟩
instance : TyOne Try.prog 55 := ⟨fun _ => by kernel_rfl, by kernel_rfl⟩
instance : ZeroT Try.prog 55 [.nilFunc] := ⟨by kernel_rfl⟩
instance : TyOne Try.prog 57 := ⟨fun _ => by kernel_rfl, by kernel_rfl⟩
instance : ZeroT Try.prog 57 [.nilFunc] := ⟨by kernel_rfl⟩
instance : TyOne Try.prog 58 := ⟨fun _ => by kernel_rfl, by kernel_rfl⟩
instance : ZeroT Try.prog 58 [.nilFunc] := ⟨by kernel_rfl⟩
instance : TyOne Try.prog 59 := ⟨fun _ => by kernel_rfl, by kernel_rfl⟩
instance : ZeroT Try.prog 59 [.nilFunc] := ⟨by kernel_rfl⟩
instance : TyOne Try.prog 60 := ⟨fun _ => by kernel_rfl, by kernel_rfl⟩
instance : ZeroT Try.prog 60 [.nilFunc] := ⟨by kernel_rfl⟩
instance : TyOne Try.prog 62 := ⟨fun _ => by kernel_rfl, by kernel_rfl⟩
instance : ZeroT Try.prog 62 [.nilFunc] := ⟨by kernel_rfl⟩
instance : TyOne Try.prog 63 := ⟨fun _ => by kernel_rfl, by kernel_rfl⟩
instance : ZeroT Try.prog 63 [.nilFunc] := ⟨by kernel_rfl⟩
instance : TyOne Try.prog 64 := ⟨fun _ => by kernel_rfl, by kernel_rfl⟩
instance : ZeroT Try.prog 64 [.nilFunc] := ⟨by kernel_rfl⟩
instance : TyOne Try.prog 65 := ⟨fun _ => by kernel_rfl, by kernel_rfl⟩
instance : ZeroT Try.prog 65 [.nilFunc] := ⟨by kernel_rfl⟩
instance : TyOne Try.prog 67 := ⟨fun _ => by kernel_rfl, by kernel_rfl⟩
instance : ZeroT Try.prog 67 [.nilFunc] := ⟨by kernel_rfl⟩
instance : TyOne Try.prog 69 := ⟨fun _ => by kernel_rfl, by kernel_rfl⟩
instance : ZeroT Try.prog 69 [.nilFunc] := ⟨by kernel_rfl⟩
instance : TyOne Try.prog 70 := ⟨fun _ => by kernel_rfl, by kernel_rfl⟩
instance : ZeroT Try.prog 70 [.nilFunc] := ⟨by kernel_rfl⟩
instance : TyOne Try.prog 71 := ⟨fun _ => by kernel_rfl, by kernel_rfl⟩
instance : ZeroT Try.prog 71 [.nilFunc] := ⟨by kernel_rfl⟩
instance : TyOne Try.prog 72 := ⟨fun _ => by kernel_rfl, by kernel_rfl⟩
instance : TyPtr Try.prog 72 := ⟨⟨103, by kernel_rfl⟩⟩
instance : ZeroT Try.prog 72 [.pointer none] := ⟨by kernel_rfl⟩
instance : TyOne Try.prog 73 := ⟨fun _ => by kernel_rfl, by kernel_rfl⟩
instance : ZeroT Try.prog 73 [.nilFunc] := ⟨by kernel_rfl⟩
instance : TyOne Try.prog 74 := ⟨fun _ => by kernel_rfl, by kernel_rfl⟩
instance : ZeroT Try.prog 74 [.nilFunc] := ⟨by kernel_rfl⟩
instance : TyOne Try.prog 75 := ⟨fun _ => by kernel_rfl, by kernel_rfl⟩
instance : TyInt Try.prog 75 .u64 := ⟨by kernel_rfl⟩
instance : ZeroT Try.prog 75 [.int .u64 0] := ⟨by kernel_rfl⟩
instance : TyOne Try.prog 76 := ⟨fun _ => by kernel_rfl, by kernel_rfl⟩
instance : ZeroT Try.prog 76 [.nilFunc] := ⟨by kernel_rfl⟩
instance : TyAgg Try.prog 77 1 := ⟨fun _ => by kernel_rfl, by kernel_rfl⟩
instance : Fld Try.prog 77 0 0 := Fld.of 0 (by kernel_rfl)
instance : TyStruct Try.prog 77 [(0, 1)] := ⟨by kernel_rfl⟩
instance : ZeroT Try.prog 77 [.slice none 0 0] := ⟨by kernel_rfl⟩
instance : TyAgg Try.prog 78 1 := ⟨fun _ => by kernel_rfl, by kernel_rfl⟩
instance : Fld Try.prog 78 0 0 := Fld.of 0 (by kernel_rfl)
instance : TyStruct Try.prog 78 [(0, 1)] := ⟨by kernel_rfl⟩
instance : ZeroT Try.prog 78 [.slice none 0 0] := ⟨by kernel_rfl⟩
instance : TyOne Try.prog 79 := ⟨fun _ => by kernel_rfl, by kernel_rfl⟩
instance : ZeroT Try.prog 79 [.nilFunc] := ⟨by kernel_rfl⟩
instance : TyOne Try.prog 80 := ⟨fun _ => by kernel_rfl, by kernel_rfl⟩
instance : ZeroT Try.prog 80 [.nilFunc] := ⟨by kernel_rfl⟩
instance : TyOne Try.prog 81 := ⟨fun _ => by kernel_rfl, by kernel_rfl⟩
instance : ZeroT Try.prog 81 [.nilFunc] := ⟨by kernel_rfl⟩
instance : TyOne Try.prog 82 := ⟨fun _ => by kernel_rfl, by kernel_rfl⟩
instance : ZeroT Try.prog 82 [.nilFunc] := ⟨by kernel_rfl⟩
instance : TyOne Try.prog 83 := ⟨fun _ => by kernel_rfl, by kernel_rfl⟩
instance : TyMap Try.prog 83 3 31 := ⟨by kernel_rfl⟩
instance : TyKeyI Try.prog 83 31 (.slice none 0 0) := ⟨⟨3, .i64, by kernel_rfl, by kernel_rfl, by kernel_rfl⟩⟩
instance : ZeroT Try.prog 83 [.map none] := ⟨by kernel_rfl⟩
instance : TyAgg Try.prog 84 6 := ⟨fun _ => by kernel_rfl, by kernel_rfl⟩
instance : Fld Try.prog 84 0 0 := Fld.of 0 (by kernel_rfl)
instance : Fld Try.prog 84 1 1 := Fld.of 0 (by kernel_rfl)
instance : Fld Try.prog 84 2 2 := Fld.of 0 (by kernel_rfl)
instance : Fld Try.prog 84 3 3 := Fld.of 0 (by kernel_rfl)
instance : Fld Try.prog 84 4 4 := Fld.of 0 (by kernel_rfl)
instance : Fld Try.prog 84 5 5 := Fld.of 0 (by kernel_rfl)
instance : TyStruct Try.prog 84 [(0, 1), (1, 1), (2, 1), (3, 1), (4, 1), (5, 1)] := ⟨by kernel_rfl⟩
instance : ZeroT Try.prog 84 [.int .i64 0, .int .i64 0, .slice none 0 0, .int .i64 0, .map none, .bool false] := ⟨by kernel_rfl⟩
instance : TyAgg Try.prog 85 6 := ⟨fun _ => by kernel_rfl, by kernel_rfl⟩
instance : Fld Try.prog 85 0 0 := Fld.of 0 (by kernel_rfl)
instance : Fld Try.prog 85 1 1 := Fld.of 0 (by kernel_rfl)
instance : Fld Try.prog 85 2 2 := Fld.of 0 (by kernel_rfl)
instance : Fld Try.prog 85 3 3 := Fld.of 0 (by kernel_rfl)
instance : Fld Try.prog 85 4 4 := Fld.of 0 (by kernel_rfl)
instance : Fld Try.prog 85 5 5 := Fld.of 0 (by kernel_rfl)
instance : TyStruct Try.prog 85 [(0, 1), (1, 1), (2, 1), (3, 1), (4, 1), (5, 1)] := ⟨by kernel_rfl⟩
instance : ZeroT Try.prog 85 [.int .i64 0, .int .i64 0, .slice none 0 0, .int .i64 0, .map none, .bool false] := ⟨by kernel_rfl⟩
instance : TyOne Try.prog 86 := ⟨fun _ => by kernel_rfl, by kernel_rfl⟩
instance : ZeroT Try.prog 86 [.nilFunc] := ⟨by kernel_rfl⟩
instance : TyOne Try.prog 87 := ⟨fun _ => by kernel_rfl, by kernel_rfl⟩
instance : ZeroT Try.prog 87 [.nilFunc] := ⟨by kernel_rfl⟩
instance : TyOne Try.prog 89 := ⟨fun _ => by kernel_rfl, by kernel_rfl⟩
instance : ZeroT Try.prog 89 [.nilFunc] := ⟨by kernel_rfl⟩
instance : TyOne Try.prog 90 := ⟨fun _ => by kernel_rfl, by kernel_rfl⟩
instance : ZeroT Try.prog 90 [.nilFunc] := ⟨by kernel_rfl⟩
instance : TyAgg Try.prog 91 2 := ⟨fun _ => by kernel_rfl, by kernel_rfl⟩
instance : Fld Try.prog 91 0 0 := Fld.of 0 (by kernel_rfl)
instance : Fld Try.prog 91 1 1 := Fld.of 0 (by kernel_rfl)
instance : TyStruct Try.prog 91 [(0, 1), (1, 1)] := ⟨by kernel_rfl⟩
instance : ZeroT Try.prog 91 [.int .i64 0, .slice none 0 0] := ⟨by kernel_rfl⟩
instance : TyAgg Try.prog 92 2 := ⟨fun _ => by kernel_rfl, by kernel_rfl⟩
instance : Fld Try.prog 92 0 0 := Fld.of 0 (by kernel_rfl)
instance : Fld Try.prog 92 1 1 := Fld.of 0 (by kernel_rfl)
instance : TyStruct Try.prog 92 [(0, 1), (1, 1)] := ⟨by kernel_rfl⟩
instance : ZeroT Try.prog 92 [.int .i64 0, .slice none 0 0] := ⟨by kernel_rfl⟩
instance : TyOne Try.prog 93 := ⟨fun _ => by kernel_rfl, by kernel_rfl⟩
instance : ZeroT Try.prog 93 [.nilFunc] := ⟨by kernel_rfl⟩
instance : TyOne Try.prog 94 := ⟨fun _ => by kernel_rfl, by kernel_rfl⟩
instance : TyPtr Try.prog 94 := ⟨⟨78, by kernel_rfl⟩⟩
instance : ZeroT Try.prog 94 [.pointer none] := ⟨by kernel_rfl⟩
instance : TyOne Try.prog 95 := ⟨fun _ => by kernel_rfl, by kernel_rfl⟩
instance : ZeroT Try.prog 95 [.nilFunc] := ⟨by kernel_rfl⟩
instance : TyOne Try.prog 96 := ⟨fun _ => by kernel_rfl, by kernel_rfl⟩
instance : ZeroT Try.prog 96 [.nilFunc] := ⟨by kernel_rfl⟩
instance : TyOne Try.prog 97 := ⟨fun _ => by kernel_rfl, by kernel_rfl⟩
instance : ZeroT Try.prog 97 [.nilFunc] := ⟨by kernel_rfl⟩
instance : TyOne Try.prog 98 := ⟨fun _ => by kernel_rfl, by kernel_rfl⟩
instance : ZeroT Try.prog 98 [.nilFunc] := ⟨by kernel_rfl⟩
instance : TyOne Try.prog 99 := ⟨fun _ => by kernel_rfl, by kernel_rfl⟩
instance : TyPtr Try.prog 99 := ⟨⟨101, by kernel_rfl⟩⟩
instance : ZeroT Try.prog 99 [.pointer none] := ⟨by kernel_rfl⟩
instance : TyAgg Try.prog 100 2 := ⟨fun _ => by kernel_rfl, by kernel_rfl⟩
instance : Fld Try.prog 100 0 0 := Fld.of 0 (by kernel_rfl)
instance : Fld Try.prog 100 1 1 := Fld.of 0 (by kernel_rfl)
instance : TyStruct Try.prog 100 [(0, 1), (1, 1)] := ⟨by kernel_rfl⟩
instance : ZeroT Try.prog 100 [.slice none 0 0, .int .i64 0] := ⟨by kernel_rfl⟩
instance : TyAgg Try.prog 101 2 := ⟨fun _ => by kernel_rfl, by kernel_rfl⟩
instance : Fld Try.prog 101 0 0 := Fld.of 0 (by kernel_rfl)
instance : Fld Try.prog 101 1 1 := Fld.of 0 (by kernel_rfl)
instance : TyStruct Try.prog 101 [(0, 1), (1, 1)] := ⟨by kernel_rfl⟩
instance : ZeroT Try.prog 101 [.slice none 0 0, .int .i64 0] := ⟨by kernel_rfl⟩
instance : TyAgg Try.prog 102 2 := ⟨fun _ => by kernel_rfl, by kernel_rfl⟩
instance : Fld Try.prog 102 0 0 := Fld.of 0 (by kernel_rfl)
instance : Fld Try.prog 102 1 1 := Fld.of 0 (by kernel_rfl)
instance : TyStruct Try.prog 102 [(0, 1), (1, 1)] := ⟨by kernel_rfl⟩
instance : ZeroT Try.prog 102 [.slice none 0 0, .int .i64 0] := ⟨by kernel_rfl⟩
instance : TyAgg Try.prog 103 2 := ⟨fun _ => by kernel_rfl, by kernel_rfl⟩
instance : Fld Try.prog 103 0 0 := Fld.of 0 (by kernel_rfl)
instance : Fld Try.prog 103 1 1 := Fld.of 0 (by kernel_rfl)
instance : TyStruct Try.prog 103 [(0, 1), (1, 1)] := ⟨by kernel_rfl⟩
instance : ZeroT Try.prog 103 [.slice none 0 0, .int .i64 0] := ⟨by kernel_rfl⟩
instance : TyOne Try.prog 104 := ⟨fun _ => by kernel_rfl, by kernel_rfl⟩
instance : ZeroT Try.prog 104 [.nilFunc] := ⟨by kernel_rfl⟩
instance : TyOne Try.prog 105 := ⟨fun _ => by kernel_rfl, by kernel_rfl⟩
instance : ZeroT Try.prog 105 [.nilFunc] := ⟨by kernel_rfl⟩
instance : TyOne Try.prog 106 := ⟨fun _ => by kernel_rfl, by kernel_rfl⟩
instance : TyInt Try.prog 106 .u64 := ⟨by kernel_rfl⟩
instance : ZeroT Try.prog 106 [.int .u64 0] := ⟨by kernel_rfl⟩
instance : TyOne Try.prog 107 := ⟨fun _ => by kernel_rfl, by kernel_rfl⟩
instance : ZeroT Try.prog 107 [.nilFunc] := ⟨by kernel_rfl⟩
instance : TyOne Try.prog 108 := ⟨fun _ => by kernel_rfl, by kernel_rfl⟩
instance : ZeroT Try.prog 108 [.nilFunc] := ⟨by kernel_rfl⟩
instance : TyOne Try.prog 109 := ⟨fun _ => by kernel_rfl, by kernel_rfl⟩
instance : ZeroT Try.prog 109 [.nilFunc] := ⟨by kernel_rfl⟩
instance : TyOne Try.prog 110 := ⟨fun _ => by kernel_rfl, by kernel_rfl⟩
instance : ZeroT Try.prog 110 [.nilFunc] := ⟨by kernel_rfl⟩
instance : TyOne Try.prog 111 := ⟨fun _ => by kernel_rfl, by kernel_rfl⟩
instance : ZeroT Try.prog 111 [.nilFunc] := ⟨by kernel_rfl⟩
instance : TyOne Try.prog 112 := ⟨fun _ => by kernel_rfl, by kernel_rfl⟩
instance : ZeroT Try.prog 112 [.nilFunc] := ⟨by kernel_rfl⟩
instance : TyOne Try.prog 113 := ⟨fun _ => by kernel_rfl, by kernel_rfl⟩
instance : ZeroT Try.prog 113 [.nilFunc] := ⟨by kernel_rfl⟩
instance : TyOne Try.prog 114 := ⟨fun _ => by kernel_rfl, by kernel_rfl⟩
instance : TySl Try.prog 114 75 1 8 [.int .u64 0] := ⟨by kernel_rfl, by kernel_rfl, by decide, by decide⟩
instance : ZeroT Try.prog 114 [.slice none 0 0] := ⟨by kernel_rfl⟩
instance : TyOne Try.prog 115 := ⟨fun _ => by kernel_rfl, by kernel_rfl⟩
instance : ZeroT Try.prog 115 [.nilFunc] := ⟨by kernel_rfl⟩
instance : TyOne Try.prog 116 := ⟨fun _ => by kernel_rfl, by kernel_rfl⟩
instance : ZeroT Try.prog 116 [.nilFunc] := ⟨by kernel_rfl⟩
instance : TyOne Try.prog 117 := ⟨fun _ => by kernel_rfl, by kernel_rfl⟩
instance : ZeroT Try.prog 117 [.nilFunc] := ⟨by kernel_rfl⟩
instance : TyOne Try.prog 118 := ⟨fun _ => by kernel_rfl, by kernel_rfl⟩
instance : ZeroT Try.prog 118 [.nilFunc] := ⟨by kernel_rfl⟩
instance : TyOne Try.prog 119 := ⟨fun _ => by kernel_rfl, by kernel_rfl⟩
instance : ZeroT Try.prog 119 [.nilFunc] := ⟨by kernel_rfl⟩
instance : TyOne Try.prog 120 := ⟨fun _ => by kernel_rfl, by kernel_rfl⟩
instance : ZeroT Try.prog 120 [.nilFunc] := ⟨by kernel_rfl⟩
instance : TyAgg Try.prog 121 4 := ⟨fun _ => by kernel_rfl, by kernel_rfl⟩
instance : Fld Try.prog 121 0 0 := Fld.of 0 (by kernel_rfl)
instance : Fld Try.prog 121 1 1 := Fld.of 0 (by kernel_rfl)
instance : Fld Try.prog 121 2 2 := Fld.of 0 (by kernel_rfl)
instance : Fld Try.prog 121 3 3 := Fld.of 0 (by kernel_rfl)
instance : TyStruct Try.prog 121 [(0, 1), (1, 1), (2, 1), (3, 1)] := ⟨by kernel_rfl⟩
instance : ZeroT Try.prog 121 [.pointer none, .pointer none, .pointer none, .string ⟨#[]⟩] := ⟨by kernel_rfl⟩
instance : TyAgg Try.prog 122 4 := ⟨fun _ => by kernel_rfl, by kernel_rfl⟩
instance : Fld Try.prog 122 0 0 := Fld.of 0 (by kernel_rfl)
instance : Fld Try.prog 122 1 1 := Fld.of 0 (by kernel_rfl)
instance : Fld Try.prog 122 2 2 := Fld.of 0 (by kernel_rfl)
instance : Fld Try.prog 122 3 3 := Fld.of 0 (by kernel_rfl)
instance : TyStruct Try.prog 122 [(0, 1), (1, 1), (2, 1), (3, 1)] := ⟨by kernel_rfl⟩
instance : ZeroT Try.prog 122 [.pointer none, .pointer none, .pointer none, .string ⟨#[]⟩] := ⟨by kernel_rfl⟩
instance : TyAgg Try.prog 123 0 := ⟨fun _ => by kernel_rfl, by kernel_rfl⟩
instance : ZeroT Try.prog 123 [] := ⟨by kernel_rfl⟩
instance : TyAgg Try.prog 124 0 := ⟨fun _ => by kernel_rfl, by kernel_rfl⟩
instance : ZeroT Try.prog 124 [] := ⟨by kernel_rfl⟩
instance : TyAgg Try.prog 125 0 := ⟨fun _ => by kernel_rfl, by kernel_rfl⟩
instance : ZeroT Try.prog 125 [] := ⟨by kernel_rfl⟩
instance : TyOne Try.prog 126 := ⟨fun _ => by kernel_rfl, by kernel_rfl⟩
instance : TyInt Try.prog 126 .u32 := ⟨by kernel_rfl⟩
instance : ZeroT Try.prog 126 [.int .u32 0] := ⟨by kernel_rfl⟩
instance : TyOne Try.prog 127 := ⟨fun _ => by kernel_rfl, by kernel_rfl⟩
instance : TyInt Try.prog 127 .u8 := ⟨by kernel_rfl⟩
instance : ZeroT Try.prog 127 [.int .u8 0] := ⟨by kernel_rfl⟩
instance : TyOne Try.prog 128 := ⟨fun _ => by kernel_rfl, by kernel_rfl⟩
instance : TyInt Try.prog 128 .u8 := ⟨by kernel_rfl⟩
instance : ZeroT Try.prog 128 [.int .u8 0] := ⟨by kernel_rfl⟩
instance : TyOne Try.prog 129 := ⟨fun _ => by kernel_rfl, by kernel_rfl⟩
instance : ZeroT Try.prog 129 [.nilFunc] := ⟨by kernel_rfl⟩
instance : TyOne Try.prog 130 := ⟨fun _ => by kernel_rfl, by kernel_rfl⟩
instance : TyPtr Try.prog 130 := ⟨⟨5, by kernel_rfl⟩⟩
instance : ZeroT Try.prog 130 [.pointer none] := ⟨by kernel_rfl⟩
instance : TyOne Try.prog 131 := ⟨fun _ => by kernel_rfl, by kernel_rfl⟩
instance : TyInt Try.prog 131 .i32 := ⟨by kernel_rfl⟩
instance : ZeroT Try.prog 131 [.int .i32 0] := ⟨by kernel_rfl⟩
instance : TyOne Try.prog 132 := ⟨fun _ => by kernel_rfl, by kernel_rfl⟩
instance : TyInt Try.prog 132 .i32 := ⟨by kernel_rfl⟩
instance : ZeroT Try.prog 132 [.int .i32 0] := ⟨by kernel_rfl⟩
instance : TyAgg Try.prog 133 11 := ⟨fun _ => by kernel_rfl, by kernel_rfl⟩
instance : Fld Try.prog 133 0 0 := Fld.of 0 (by kernel_rfl)
instance : Fld Try.prog 133 1 1 := Fld.of 0 (by kernel_rfl)
instance : Fld Try.prog 133 2 2 := Fld.of 0 (by kernel_rfl)
instance : Fld Try.prog 133 3 3 := Fld.of 0 (by kernel_rfl)
instance : Fld Try.prog 133 4 4 := Fld.of 0 (by kernel_rfl)
instance : Fld Try.prog 133 5 5 := Fld.of 0 (by kernel_rfl)
instance : Fld Try.prog 133 6 6 := Fld.of 0 (by kernel_rfl)
instance : Fld Try.prog 133 7 7 := Fld.of 0 (by kernel_rfl)
instance : Fld Try.prog 133 8 8 := Fld.of 0 (by kernel_rfl)
instance : Fld Try.prog 133 9 9 := Fld.of 0 (by kernel_rfl)
instance : Fld Try.prog 133 10 10 := Fld.of 0 (by kernel_rfl)
instance : TyStruct Try.prog 133 [(0, 1), (1, 1), (2, 1), (3, 1), (4, 1), (5, 1), (6, 1), (7, 1), (8, 1), (9, 1), (10, 1)] := ⟨by kernel_rfl⟩
instance : ZeroT Try.prog 133 [.int .u64 0, .int .u64 0, .int .u32 0, .int .u8 0, .int .u8 0, .int .u8 0, .int .u8 0, .nilFunc, .pointer none, .int .i32 0, .int .i32 0] := ⟨by kernel_rfl⟩
instance : TyAgg Try.prog 134 11 := ⟨fun _ => by kernel_rfl, by kernel_rfl⟩
instance : Fld Try.prog 134 0 0 := Fld.of 0 (by kernel_rfl)
instance : Fld Try.prog 134 1 1 := Fld.of 0 (by kernel_rfl)
instance : Fld Try.prog 134 2 2 := Fld.of 0 (by kernel_rfl)
instance : Fld Try.prog 134 3 3 := Fld.of 0 (by kernel_rfl)
instance : Fld Try.prog 134 4 4 := Fld.of 0 (by kernel_rfl)
instance : Fld Try.prog 134 5 5 := Fld.of 0 (by kernel_rfl)
instance : Fld Try.prog 134 6 6 := Fld.of 0 (by kernel_rfl)
instance : Fld Try.prog 134 7 7 := Fld.of 0 (by kernel_rfl)
instance : Fld Try.prog 134 8 8 := Fld.of 0 (by kernel_rfl)
instance : Fld Try.prog 134 9 9 := Fld.of 0 (by kernel_rfl)
instance : Fld Try.prog 134 10 10 := Fld.of 0 (by kernel_rfl)
instance : TyStruct Try.prog 134 [(0, 1), (1, 1), (2, 1), (3, 1), (4, 1), (5, 1), (6, 1), (7, 1), (8, 1), (9, 1), (10, 1)] := ⟨by kernel_rfl⟩
instance : ZeroT Try.prog 134 [.int .u64 0, .int .u64 0, .int .u32 0, .int .u8 0, .int .u8 0, .int .u8 0, .int .u8 0, .nilFunc, .pointer none, .int .i32 0, .int .i32 0] := ⟨by kernel_rfl⟩
instance : TyOne Try.prog 135 := ⟨fun _ => by kernel_rfl, by kernel_rfl⟩
instance : ZeroT Try.prog 135 [.nilFunc] := ⟨by kernel_rfl⟩
instance : ZeroT Try.prog 136 [.pointer none] := ⟨by kernel_rfl⟩
theorem en2 : Enters Try.prog 2 := fun _ _ => by kernel_rfl
theorem en3 : Enters Try.prog 3 := fun _ _ => by kernel_rfl
theorem en4 : Enters Try.prog 4 := fun _ _ => by kernel_rfl
theorem en5 : Enters Try.prog 5 := fun _ _ => by kernel_rfl
theorem en6 : Enters Try.prog 6 := fun _ _ => by kernel_rfl
theorem en7 : Enters Try.prog 7 := fun _ _ => by kernel_rfl
theorem en8 : Enters Try.prog 8 := fun _ _ => by kernel_rfl
theorem en9 : Enters Try.prog 9 := fun _ _ => by kernel_rfl
theorem en10 : Enters Try.prog 10 := fun _ _ => by kernel_rfl
theorem en11 : Enters Try.prog 11 := fun _ _ => by kernel_rfl
theorem en12 : Enters Try.prog 12 := fun _ _ => by kernel_rfl
theorem en13 : Enters Try.prog 13 := fun _ _ => by kernel_rfl
theorem en14 : Enters Try.prog 14 := fun _ _ => by kernel_rfl
theorem en15 : Enters Try.prog 15 := fun _ _ => by kernel_rfl
theorem en16 : Enters Try.prog 16 := fun _ _ => by kernel_rfl
theorem en17 : Enters Try.prog 17 := fun _ _ => by kernel_rfl
theorem en18 : Enters Try.prog 18 := fun _ _ => by kernel_rfl
theorem en19 : Enters Try.prog 19 := fun _ _ => by kernel_rfl
theorem en20 : Enters Try.prog 20 := fun _ _ => by kernel_rfl
theorem en21 : Enters Try.prog 21 := fun _ _ => by kernel_rfl
theorem en22 : Enters Try.prog 22 := fun _ _ => by kernel_rfl
theorem en23 : Enters Try.prog 23 := fun _ _ => by kernel_rfl
theorem en24 : Enters Try.prog 24 := fun _ _ => by kernel_rfl
theorem en25 : Enters Try.prog 25 := fun _ _ => by kernel_rfl
theorem en26 : Enters Try.prog 26 := fun _ _ => by kernel_rfl
theorem en27 : Enters Try.prog 27 := fun _ _ => by kernel_rfl
theorem en28 : Enters Try.prog 28 := fun _ _ => by kernel_rfl
theorem en29 : Enters Try.prog 29 := fun _ _ => by kernel_rfl
theorem en30 : Enters Try.prog 30 := fun _ _ => by kernel_rfl
theorem en31 : Enters Try.prog 31 := fun _ _ => by kernel_rfl
theorem en32 : Enters Try.prog 32 := fun _ _ => by kernel_rfl
theorem en33 : Enters Try.prog 33 := fun _ _ => by kernel_rfl
theorem en34 : Enters Try.prog 34 := fun _ _ => by kernel_rfl
theorem en35 : Enters Try.prog 35 := fun _ _ => by kernel_rfl
theorem en36 : Enters Try.prog 36 := fun _ _ => by kernel_rfl
theorem en37 : Enters Try.prog 37 := fun _ _ => by kernel_rfl
theorem en38 : Enters Try.prog 38 := fun _ _ => by kernel_rfl
theorem en39 : Enters Try.prog 39 := fun _ _ => by kernel_rfl
theorem en40 : Enters Try.prog 40 := fun _ _ => by kernel_rfl
theorem en41 : Enters Try.prog 41 := fun _ _ => by kernel_rfl
theorem en42 : Enters Try.prog 42 := fun _ _ => by kernel_rfl
theorem en43 : Enters Try.prog 43 := fun _ _ => by kernel_rfl
theorem en44 : Enters Try.prog 44 := fun _ _ => by kernel_rfl
theorem en45 : Enters Try.prog 45 := fun _ _ => by kernel_rfl
theorem en46 : Enters Try.prog 46 := fun _ _ => by kernel_rfl
theorem en47 : Enters Try.prog 47 := fun _ _ => by kernel_rfl
theorem en48 : Enters Try.prog 48 := fun _ _ => by kernel_rfl
theorem en49 : Enters Try.prog 49 := fun _ _ => by kernel_rfl
theorem en50 : Enters Try.prog 50 := fun _ _ => by kernel_rfl
theorem en51 : Enters Try.prog 51 := fun _ _ => by kernel_rfl
theorem en52 : Enters Try.prog 52 := fun _ _ => by kernel_rfl
theorem en53 : Enters Try.prog 53 := fun _ _ => by kernel_rfl
theorem en54 : Enters Try.prog 54 := fun _ _ => by kernel_rfl
theorem en55 : Enters Try.prog 55 := fun _ _ => by kernel_rfl
theorem en56 : Enters Try.prog 56 := fun _ _ => by kernel_rfl
theorem en57 : Enters Try.prog 57 := fun _ _ => by kernel_rfl
theorem en58 : Enters Try.prog 58 := fun _ _ => by kernel_rfl
theorem en59 : Enters Try.prog 59 := fun _ _ => by kernel_rfl
theorem en60 : Enters Try.prog 60 := fun _ _ => by kernel_rfl
theorem en61 : Enters Try.prog 61 := fun _ _ => by kernel_rfl
theorem en62 : Enters Try.prog 62 := fun _ _ => by kernel_rfl
theorem en64 : Enters Try.prog 64 := fun _ _ => by kernel_rfl
theorem en65 : Enters Try.prog 65 := fun _ _ => by kernel_rfl
theorem en66 : Enters Try.prog 66 := fun _ _ => by kernel_rfl
theorem en67 : Enters Try.prog 67 := fun _ _ => by kernel_rfl
theorem en68 : Enters Try.prog 68 := fun _ _ => by kernel_rfl
theorem en69 : Enters Try.prog 69 := fun _ _ => by kernel_rfl
theorem en70 : Enters Try.prog 70 := fun _ _ => by kernel_rfl
theorem en71 : Enters Try.prog 71 := fun _ _ => by kernel_rfl
theorem en72 : Enters Try.prog 72 := fun _ _ => by kernel_rfl
theorem en73 : Enters Try.prog 73 := fun _ _ => by kernel_rfl
theorem en74 : Enters Try.prog 74 := fun _ _ => by kernel_rfl
theorem mixed : Try.prog.follows .mixedOrders = true := by kernel_rfl
end Go.Proofs.Ytnpienjfapjjoaa
