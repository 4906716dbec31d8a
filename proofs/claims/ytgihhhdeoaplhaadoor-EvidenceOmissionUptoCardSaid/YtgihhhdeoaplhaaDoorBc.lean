/- The types of this program; package wire walked. -/
import Derived.Test.YtgihhhdeoaplhaaDoorRows
import Derived.Deep.LoopGhost
import Derived.WalkMore
import Derived.Test.YtgihhhdeoaplhaaDoorBa
import Derived.Test.YtgihhhdeoaplhaaDoorBb

/- The types of this program, as the rules ask of them. Written by a program of ours. -/
namespace Go.Proofs.YtgihhhdeoaplhaaDoor
set_option linter.unusedSimpArgs false
set_option linter.unusedVariables false
open Go.Sl

instance ty1 : Ty Tryd.prog 1 false 1 [.nilFunc] 8 := ⟨by kernel_rfl, by kernel_rfl, rfl, rfl, rfl, by simp⟩
instance ty2 : Ty Tryd.prog 2 false 1 [.int .i64 0] 8 := ⟨by kernel_rfl, by kernel_rfl, rfl, rfl, rfl, by simp⟩
instance int2 : IntT Tryd.prog 2 .i64 := ⟨by kernel_rfl⟩
instance ty3 : Ty Tryd.prog 3 false 1 [.int .i64 0] 8 := ⟨by kernel_rfl, by kernel_rfl, rfl, rfl, rfl, by simp⟩
instance int3 : IntT Tryd.prog 3 .i64 := ⟨by kernel_rfl⟩
instance ty4 : Ty Tryd.prog 4 false 1 [.bool false] 1 := ⟨by kernel_rfl, by kernel_rfl, rfl, rfl, rfl, by simp⟩
instance bool4 : BoolT Tryd.prog 4 := ⟨by kernel_rfl⟩
instance ty5 : Ty Tryd.prog 5 false 1 [.int .u8 0] 1 := ⟨by kernel_rfl, by kernel_rfl, rfl, rfl, rfl, by simp⟩
instance int5 : IntT Tryd.prog 5 .u8 := ⟨by kernel_rfl⟩
instance ty6 : Ty Tryd.prog 6 false 1 [.int .u8 0] 1 := ⟨by kernel_rfl, by kernel_rfl, rfl, rfl, rfl, by simp⟩
instance int6 : IntT Tryd.prog 6 .u8 := ⟨by kernel_rfl⟩
instance ty7 : Ty Tryd.prog 7 true 4 [.int .i64 0, .int .i64 0, .bool false, .int .u8 0] 24 := ⟨by kernel_rfl, by kernel_rfl, rfl, rfl, rfl, by simp⟩
instance fld7_0 : FldT Tryd.prog 7 0 0 := ⟨by kernel_rfl⟩
instance fld7_1 : FldT Tryd.prog 7 1 1 := ⟨by kernel_rfl⟩
instance fld7_2 : FldT Tryd.prog 7 2 2 := ⟨by kernel_rfl⟩
instance fld7_3 : FldT Tryd.prog 7 3 3 := ⟨by kernel_rfl⟩
instance str7 : StructT Tryd.prog 7 [(0, 1), (1, 1), (2, 1), (3, 1)] := ⟨by kernel_rfl⟩
instance ty8 : Ty Tryd.prog 8 true 4 [.int .i64 0, .int .i64 0, .bool false, .int .u8 0] 24 := ⟨by kernel_rfl, by kernel_rfl, rfl, rfl, rfl, by simp⟩
instance fld8_0 : FldT Tryd.prog 8 0 0 := ⟨by kernel_rfl⟩
instance fld8_1 : FldT Tryd.prog 8 1 1 := ⟨by kernel_rfl⟩
instance fld8_2 : FldT Tryd.prog 8 2 2 := ⟨by kernel_rfl⟩
instance fld8_3 : FldT Tryd.prog 8 3 3 := ⟨by kernel_rfl⟩
instance str8 : StructT Tryd.prog 8 [(0, 1), (1, 1), (2, 1), (3, 1)] := ⟨by kernel_rfl⟩
instance ty9 : Ty Tryd.prog 9 false 1 [.string ByteArray.empty] 16 := ⟨by kernel_rfl, by kernel_rfl, rfl, rfl, rfl, by simp⟩
instance ty10 : Ty Tryd.prog 10 false 1 [.string ByteArray.empty] 16 := ⟨by kernel_rfl, by kernel_rfl, rfl, rfl, rfl, by simp⟩
instance ty11 : Ty Tryd.prog 11 false 1 [.string ByteArray.empty] 16 := ⟨by kernel_rfl, by kernel_rfl, rfl, rfl, rfl, by simp⟩
instance ty12 : Ty Tryd.prog 12 false 1 [.int .u64 0] 8 := ⟨by kernel_rfl, by kernel_rfl, rfl, rfl, rfl, by simp⟩
instance int12 : IntT Tryd.prog 12 .u64 := ⟨by kernel_rfl⟩
instance ty13 : Ty Tryd.prog 13 true 2 [.string ByteArray.empty, .int .u64 0] 24 := ⟨by kernel_rfl, by kernel_rfl, rfl, rfl, rfl, by simp⟩
instance fld13_0 : FldT Tryd.prog 13 0 0 := ⟨by kernel_rfl⟩
instance fld13_1 : FldT Tryd.prog 13 1 1 := ⟨by kernel_rfl⟩
instance str13 : StructT Tryd.prog 13 [(0, 1), (1, 1)] := ⟨by kernel_rfl⟩
instance ty14 : Ty Tryd.prog 14 true 2 [.string ByteArray.empty, .int .u64 0] 24 := ⟨by kernel_rfl, by kernel_rfl, rfl, rfl, rfl, by simp⟩
instance fld14_0 : FldT Tryd.prog 14 0 0 := ⟨by kernel_rfl⟩
instance fld14_1 : FldT Tryd.prog 14 1 1 := ⟨by kernel_rfl⟩
instance str14 : StructT Tryd.prog 14 [(0, 1), (1, 1)] := ⟨by kernel_rfl⟩
instance ty15 : Ty Tryd.prog 15 false 1 [.pointer none] 8 := ⟨by kernel_rfl, by kernel_rfl, rfl, rfl, rfl, by simp⟩
instance ty16 : Ty Tryd.prog 16 false 1 [.pointer none] 8 := ⟨by kernel_rfl, by kernel_rfl, rfl, rfl, rfl, by simp⟩
instance ty17 : Ty Tryd.prog 17 false 1 [.pointer none] 8 := ⟨by kernel_rfl, by kernel_rfl, rfl, rfl, rfl, by simp⟩
instance ty18 : Ty Tryd.prog 18 true 1 [.pointer none] 8 := ⟨by kernel_rfl, by kernel_rfl, rfl, rfl, rfl, by simp⟩
instance fld18_0 : FldT Tryd.prog 18 0 0 := ⟨by kernel_rfl⟩
instance str18 : StructT Tryd.prog 18 [(0, 1)] := ⟨by kernel_rfl⟩
instance ty19 : Ty Tryd.prog 19 true 1 [.pointer none] 8 := ⟨by kernel_rfl, by kernel_rfl, rfl, rfl, rfl, by simp⟩
instance fld19_0 : FldT Tryd.prog 19 0 0 := ⟨by kernel_rfl⟩
instance str19 : StructT Tryd.prog 19 [(0, 1)] := ⟨by kernel_rfl⟩
instance ty20 : Ty Tryd.prog 20 false 1 [.nilIface] 16 := ⟨by kernel_rfl, by kernel_rfl, rfl, rfl, rfl, by simp⟩
instance ty21 : Ty Tryd.prog 21 false 1 [.int .i32 0] 4 := ⟨by kernel_rfl, by kernel_rfl, rfl, rfl, rfl, by simp⟩
instance int21 : IntT Tryd.prog 21 .i32 := ⟨by kernel_rfl⟩
instance ty22 : Ty Tryd.prog 22 true 16 [.int .u8 0, .int .u8 0, .int .u8 0, .int .u8 0, .int .u8 0, .int .u8 0, .int .u8 0, .int .u8 0, .int .u8 0, .int .u8 0, .int .u8 0, .int .u8 0, .int .u8 0, .int .u8 0, .int .u8 0, .int .u8 0] 16 := ⟨by kernel_rfl, by kernel_rfl, rfl, rfl, rfl, by simp⟩
instance arr22 : ArrT Tryd.prog 22 16 5 := ⟨by kernel_rfl⟩
instance ty23 : Ty Tryd.prog 23 true 16 [.int .u8 0, .int .u8 0, .int .u8 0, .int .u8 0, .int .u8 0, .int .u8 0, .int .u8 0, .int .u8 0, .int .u8 0, .int .u8 0, .int .u8 0, .int .u8 0, .int .u8 0, .int .u8 0, .int .u8 0, .int .u8 0] 16 := ⟨by kernel_rfl, by kernel_rfl, rfl, rfl, rfl, by simp⟩
instance arr23 : ArrT Tryd.prog 23 16 5 := ⟨by kernel_rfl⟩
instance ty24 : Ty Tryd.prog 24 false 1 [.slice none 0 0] 24 := ⟨by kernel_rfl, by kernel_rfl, rfl, rfl, rfl, by simp⟩
instance sl24 : SlT Tryd.prog 24 48 := ⟨by kernel_rfl⟩
instance ty25 : Ty Tryd.prog 25 false 1 [.slice none 0 0] 24 := ⟨by kernel_rfl, by kernel_rfl, rfl, rfl, rfl, by simp⟩
instance sl25 : SlT Tryd.prog 25 58 := ⟨by kernel_rfl⟩
instance ty26 : Ty Tryd.prog 26 false 1 [.nilFunc] 8 := ⟨by kernel_rfl, by kernel_rfl, rfl, rfl, rfl, by simp⟩
instance ty27 : Ty Tryd.prog 27 false 1 [.nilFunc] 8 := ⟨by kernel_rfl, by kernel_rfl, rfl, rfl, rfl, by simp⟩
instance ty28 : Ty Tryd.prog 28 false 1 [.slice none 0 0] 24 := ⟨by kernel_rfl, by kernel_rfl, rfl, rfl, rfl, by simp⟩
instance sl28 : SlT Tryd.prog 28 44 := ⟨by kernel_rfl⟩
instance ty29 : Ty Tryd.prog 29 false 1 [.slice none 0 0] 24 := ⟨by kernel_rfl, by kernel_rfl, rfl, rfl, rfl, by simp⟩
instance sl29 : SlT Tryd.prog 29 52 := ⟨by kernel_rfl⟩
instance ty30 : Ty Tryd.prog 30 true 18 [.int .u8 0, .int .u8 0, .int .u8 0, .int .u8 0, .int .u8 0, .int .u8 0, .int .u8 0, .int .u8 0, .int .u8 0, .int .u8 0, .int .u8 0, .int .u8 0, .int .u8 0, .int .u8 0, .int .u8 0, .int .u8 0, .slice none 0 0, .slice none 0 0] 64 := ⟨by kernel_rfl, by kernel_rfl, rfl, rfl, rfl, by simp⟩
instance fld30_0 : FldT Tryd.prog 30 0 0 := ⟨by kernel_rfl⟩
instance fld30_1 : FldT Tryd.prog 30 1 16 := ⟨by kernel_rfl⟩
instance fld30_2 : FldT Tryd.prog 30 2 17 := ⟨by kernel_rfl⟩
instance str30 : StructT Tryd.prog 30 [(0, 16), (16, 1), (17, 1)] := ⟨by kernel_rfl⟩
instance ty31 : Ty Tryd.prog 31 true 18 [.int .u8 0, .int .u8 0, .int .u8 0, .int .u8 0, .int .u8 0, .int .u8 0, .int .u8 0, .int .u8 0, .int .u8 0, .int .u8 0, .int .u8 0, .int .u8 0, .int .u8 0, .int .u8 0, .int .u8 0, .int .u8 0, .slice none 0 0, .slice none 0 0] 64 := ⟨by kernel_rfl, by kernel_rfl, rfl, rfl, rfl, by simp⟩
instance fld31_0 : FldT Tryd.prog 31 0 0 := ⟨by kernel_rfl⟩
instance fld31_1 : FldT Tryd.prog 31 1 16 := ⟨by kernel_rfl⟩
instance fld31_2 : FldT Tryd.prog 31 2 17 := ⟨by kernel_rfl⟩
instance str31 : StructT Tryd.prog 31 [(0, 16), (16, 1), (17, 1)] := ⟨by kernel_rfl⟩
instance ty32 : Ty Tryd.prog 32 false 1 [.int .i64 0] 8 := ⟨by kernel_rfl, by kernel_rfl, rfl, rfl, rfl, by simp⟩
instance int32 : IntT Tryd.prog 32 .i64 := ⟨by kernel_rfl⟩
instance ty34 : Ty Tryd.prog 34 false 1 [.nilFunc] 8 := ⟨by kernel_rfl, by kernel_rfl, rfl, rfl, rfl, by simp⟩
instance ty35 : Ty Tryd.prog 35 false 1 [.nilFunc] 8 := ⟨by kernel_rfl, by kernel_rfl, rfl, rfl, rfl, by simp⟩
instance ty36 : Ty Tryd.prog 36 false 1 [.nilFunc] 8 := ⟨by kernel_rfl, by kernel_rfl, rfl, rfl, rfl, by simp⟩
instance ty37 : Ty Tryd.prog 37 false 1 [.nilFunc] 8 := ⟨by kernel_rfl, by kernel_rfl, rfl, rfl, rfl, by simp⟩
instance ty38 : Ty Tryd.prog 38 false 1 [.nilFunc] 8 := ⟨by kernel_rfl, by kernel_rfl, rfl, rfl, rfl, by simp⟩
instance ty39 : Ty Tryd.prog 39 true 32 [.int .u8 0, .int .u8 0, .int .u8 0, .int .u8 0, .int .u8 0, .int .u8 0, .int .u8 0, .int .u8 0, .int .u8 0, .int .u8 0, .int .u8 0, .int .u8 0, .int .u8 0, .int .u8 0, .int .u8 0, .int .u8 0, .int .u8 0, .int .u8 0, .int .u8 0, .int .u8 0, .int .u8 0, .int .u8 0, .int .u8 0, .int .u8 0, .int .u8 0, .int .u8 0, .int .u8 0, .int .u8 0, .int .u8 0, .int .u8 0, .int .u8 0, .int .u8 0] 32 := ⟨by kernel_rfl, by kernel_rfl, rfl, rfl, rfl, by simp⟩
instance fld39_0 : FldT Tryd.prog 39 0 0 := ⟨by kernel_rfl⟩
instance fld39_1 : FldT Tryd.prog 39 1 16 := ⟨by kernel_rfl⟩
instance str39 : StructT Tryd.prog 39 [(0, 16), (16, 16)] := ⟨by kernel_rfl⟩
instance ty40 : Ty Tryd.prog 40 true 32 [.int .u8 0, .int .u8 0, .int .u8 0, .int .u8 0, .int .u8 0, .int .u8 0, .int .u8 0, .int .u8 0, .int .u8 0, .int .u8 0, .int .u8 0, .int .u8 0, .int .u8 0, .int .u8 0, .int .u8 0, .int .u8 0, .int .u8 0, .int .u8 0, .int .u8 0, .int .u8 0, .int .u8 0, .int .u8 0, .int .u8 0, .int .u8 0, .int .u8 0, .int .u8 0, .int .u8 0, .int .u8 0, .int .u8 0, .int .u8 0, .int .u8 0, .int .u8 0] 32 := ⟨by kernel_rfl, by kernel_rfl, rfl, rfl, rfl, by simp⟩
instance fld40_0 : FldT Tryd.prog 40 0 0 := ⟨by kernel_rfl⟩
instance fld40_1 : FldT Tryd.prog 40 1 16 := ⟨by kernel_rfl⟩
instance str40 : StructT Tryd.prog 40 [(0, 16), (16, 16)] := ⟨by kernel_rfl⟩
instance ty41 : Ty Tryd.prog 41 false 1 [.nilFunc] 8 := ⟨by kernel_rfl, by kernel_rfl, rfl, rfl, rfl, by simp⟩
instance ty42 : Ty Tryd.prog 42 false 1 [.nilFunc] 8 := ⟨by kernel_rfl, by kernel_rfl, rfl, rfl, rfl, by simp⟩
instance ty43 : Ty Tryd.prog 43 true 66 [.int .u8 0, .int .u8 0, .int .u8 0, .int .u8 0, .int .u8 0, .int .u8 0, .int .u8 0, .int .u8 0, .int .u8 0, .int .u8 0, .int .u8 0, .int .u8 0, .int .u8 0, .int .u8 0, .int .u8 0, .int .u8 0, .int .u8 0, .int .u8 0, .int .u8 0, .int .u8 0, .int .u8 0, .int .u8 0, .int .u8 0, .int .u8 0, .int .u8 0, .int .u8 0, .int .u8 0, .int .u8 0, .int .u8 0, .int .u8 0, .int .u8 0, .int .u8 0, .int .i64 0, .int .u8 0, .int .u8 0, .int .u8 0, .int .u8 0, .int .u8 0, .int .u8 0, .int .u8 0, .int .u8 0, .int .u8 0, .int .u8 0, .int .u8 0, .int .u8 0, .int .u8 0, .int .u8 0, .int .u8 0, .int .u8 0, .int .u8 0, .int .u8 0, .int .u8 0, .int .u8 0, .int .u8 0, .int .u8 0, .int .u8 0, .int .u8 0, .int .u8 0, .int .u8 0, .int .u8 0, .int .u8 0, .int .u8 0, .int .u8 0, .int .u8 0, .int .u8 0, .int .i64 0] 80 := ⟨by kernel_rfl, by kernel_rfl, rfl, rfl, rfl, by simp⟩
instance fld43_0 : FldT Tryd.prog 43 0 0 := ⟨by kernel_rfl⟩
instance fld43_1 : FldT Tryd.prog 43 1 16 := ⟨by kernel_rfl⟩
instance fld43_2 : FldT Tryd.prog 43 2 32 := ⟨by kernel_rfl⟩
instance fld43_3 : FldT Tryd.prog 43 3 33 := ⟨by kernel_rfl⟩
instance fld43_4 : FldT Tryd.prog 43 4 49 := ⟨by kernel_rfl⟩
instance fld43_5 : FldT Tryd.prog 43 5 65 := ⟨by kernel_rfl⟩
instance str43 : StructT Tryd.prog 43 [(0, 16), (16, 16), (32, 1), (33, 16), (49, 16), (65, 1)] := ⟨by kernel_rfl⟩
instance ty44 : Ty Tryd.prog 44 true 66 [.int .u8 0, .int .u8 0, .int .u8 0, .int .u8 0, .int .u8 0, .int .u8 0, .int .u8 0, .int .u8 0, .int .u8 0, .int .u8 0, .int .u8 0, .int .u8 0, .int .u8 0, .int .u8 0, .int .u8 0, .int .u8 0, .int .u8 0, .int .u8 0, .int .u8 0, .int .u8 0, .int .u8 0, .int .u8 0, .int .u8 0, .int .u8 0, .int .u8 0, .int .u8 0, .int .u8 0, .int .u8 0, .int .u8 0, .int .u8 0, .int .u8 0, .int .u8 0, .int .i64 0, .int .u8 0, .int .u8 0, .int .u8 0, .int .u8 0, .int .u8 0, .int .u8 0, .int .u8 0, .int .u8 0, .int .u8 0, .int .u8 0, .int .u8 0, .int .u8 0, .int .u8 0, .int .u8 0, .int .u8 0, .int .u8 0, .int .u8 0, .int .u8 0, .int .u8 0, .int .u8 0, .int .u8 0, .int .u8 0, .int .u8 0, .int .u8 0, .int .u8 0, .int .u8 0, .int .u8 0, .int .u8 0, .int .u8 0, .int .u8 0, .int .u8 0, .int .u8 0, .int .i64 0] 80 := ⟨by kernel_rfl, by kernel_rfl, rfl, rfl, rfl, by simp⟩
instance fld44_0 : FldT Tryd.prog 44 0 0 := ⟨by kernel_rfl⟩
instance fld44_1 : FldT Tryd.prog 44 1 16 := ⟨by kernel_rfl⟩
instance fld44_2 : FldT Tryd.prog 44 2 32 := ⟨by kernel_rfl⟩
instance fld44_3 : FldT Tryd.prog 44 3 33 := ⟨by kernel_rfl⟩
instance fld44_4 : FldT Tryd.prog 44 4 49 := ⟨by kernel_rfl⟩
instance fld44_5 : FldT Tryd.prog 44 5 65 := ⟨by kernel_rfl⟩
instance str44 : StructT Tryd.prog 44 [(0, 16), (16, 16), (32, 1), (33, 16), (49, 16), (65, 1)] := ⟨by kernel_rfl⟩
instance ty45 : Ty Tryd.prog 45 false 1 [.nilFunc] 8 := ⟨by kernel_rfl, by kernel_rfl, rfl, rfl, rfl, by simp⟩
instance ty46 : Ty Tryd.prog 46 false 1 [.slice none 0 0] 24 := ⟨by kernel_rfl, by kernel_rfl, rfl, rfl, rfl, by simp⟩
instance sl46 : SlT Tryd.prog 46 3 := ⟨by kernel_rfl⟩
instance ty47 : Ty Tryd.prog 47 true 20 [.int .u8 0, .int .u8 0, .int .u8 0, .int .u8 0, .int .u8 0, .int .u8 0, .int .u8 0, .int .u8 0, .int .u8 0, .int .u8 0, .int .u8 0, .int .u8 0, .int .u8 0, .int .u8 0, .int .u8 0, .int .u8 0, .slice none 0 0, .slice none 0 0, .slice none 0 0, .int .i64 0] 96 := ⟨by kernel_rfl, by kernel_rfl, rfl, rfl, rfl, by simp⟩
instance fld47_0 : FldT Tryd.prog 47 0 0 := ⟨by kernel_rfl⟩
instance fld47_1 : FldT Tryd.prog 47 1 16 := ⟨by kernel_rfl⟩
instance fld47_2 : FldT Tryd.prog 47 2 17 := ⟨by kernel_rfl⟩
instance fld47_3 : FldT Tryd.prog 47 3 18 := ⟨by kernel_rfl⟩
instance fld47_4 : FldT Tryd.prog 47 4 19 := ⟨by kernel_rfl⟩
instance str47 : StructT Tryd.prog 47 [(0, 16), (16, 1), (17, 1), (18, 1), (19, 1)] := ⟨by kernel_rfl⟩
instance ty48 : Ty Tryd.prog 48 true 20 [.int .u8 0, .int .u8 0, .int .u8 0, .int .u8 0, .int .u8 0, .int .u8 0, .int .u8 0, .int .u8 0, .int .u8 0, .int .u8 0, .int .u8 0, .int .u8 0, .int .u8 0, .int .u8 0, .int .u8 0, .int .u8 0, .slice none 0 0, .slice none 0 0, .slice none 0 0, .int .i64 0] 96 := ⟨by kernel_rfl, by kernel_rfl, rfl, rfl, rfl, by simp⟩
instance fld48_0 : FldT Tryd.prog 48 0 0 := ⟨by kernel_rfl⟩
instance fld48_1 : FldT Tryd.prog 48 1 16 := ⟨by kernel_rfl⟩
instance fld48_2 : FldT Tryd.prog 48 2 17 := ⟨by kernel_rfl⟩
instance fld48_3 : FldT Tryd.prog 48 3 18 := ⟨by kernel_rfl⟩
instance fld48_4 : FldT Tryd.prog 48 4 19 := ⟨by kernel_rfl⟩
instance str48 : StructT Tryd.prog 48 [(0, 16), (16, 1), (17, 1), (18, 1), (19, 1)] := ⟨by kernel_rfl⟩
instance ty49 : Ty Tryd.prog 49 false 1 [.nilFunc] 8 := ⟨by kernel_rfl, by kernel_rfl, rfl, rfl, rfl, by simp⟩
instance ty50 : Ty Tryd.prog 50 false 1 [.slice none 0 0] 24 := ⟨by kernel_rfl, by kernel_rfl, rfl, rfl, rfl, by simp⟩
instance sl50 : SlT Tryd.prog 50 23 := ⟨by kernel_rfl⟩
instance ty51 : Ty Tryd.prog 51 true 4 [.int .i64 0, .int .i64 0, .int .i64 0, .slice none 0 0] 48 := ⟨by kernel_rfl, by kernel_rfl, rfl, rfl, rfl, by simp⟩
instance fld51_0 : FldT Tryd.prog 51 0 0 := ⟨by kernel_rfl⟩
instance fld51_1 : FldT Tryd.prog 51 1 1 := ⟨by kernel_rfl⟩
instance fld51_2 : FldT Tryd.prog 51 2 2 := ⟨by kernel_rfl⟩
instance fld51_3 : FldT Tryd.prog 51 3 3 := ⟨by kernel_rfl⟩
instance str51 : StructT Tryd.prog 51 [(0, 1), (1, 1), (2, 1), (3, 1)] := ⟨by kernel_rfl⟩
instance ty52 : Ty Tryd.prog 52 true 4 [.int .i64 0, .int .i64 0, .int .i64 0, .slice none 0 0] 48 := ⟨by kernel_rfl, by kernel_rfl, rfl, rfl, rfl, by simp⟩
instance fld52_0 : FldT Tryd.prog 52 0 0 := ⟨by kernel_rfl⟩
instance fld52_1 : FldT Tryd.prog 52 1 1 := ⟨by kernel_rfl⟩
instance fld52_2 : FldT Tryd.prog 52 2 2 := ⟨by kernel_rfl⟩
instance fld52_3 : FldT Tryd.prog 52 3 3 := ⟨by kernel_rfl⟩
instance str52 : StructT Tryd.prog 52 [(0, 1), (1, 1), (2, 1), (3, 1)] := ⟨by kernel_rfl⟩
instance ty53 : Ty Tryd.prog 53 false 1 [.nilFunc] 8 := ⟨by kernel_rfl, by kernel_rfl, rfl, rfl, rfl, by simp⟩
instance ty54 : Ty Tryd.prog 54 false 1 [.nilFunc] 8 := ⟨by kernel_rfl, by kernel_rfl, rfl, rfl, rfl, by simp⟩
instance ty55 : Ty Tryd.prog 55 false 1 [.nilFunc] 8 := ⟨by kernel_rfl, by kernel_rfl, rfl, rfl, rfl, by simp⟩
instance ty56 : Ty Tryd.prog 56 false 1 [.nilFunc] 8 := ⟨by kernel_rfl, by kernel_rfl, rfl, rfl, rfl, by simp⟩
instance ty57 : Ty Tryd.prog 57 false 1 [.nilFunc] 8 := ⟨by kernel_rfl, by kernel_rfl, rfl, rfl, rfl, by simp⟩
instance ty58 : Ty Tryd.prog 58 true 2 [.int .i64 0, .int .i64 0] 16 := ⟨by kernel_rfl, by kernel_rfl, rfl, rfl, rfl, by simp⟩
instance arr58 : ArrT Tryd.prog 58 2 3 := ⟨by kernel_rfl⟩
instance ty59 : Ty Tryd.prog 59 false 1 [.nilFunc] 8 := ⟨by kernel_rfl, by kernel_rfl, rfl, rfl, rfl, by simp⟩
instance ty60 : Ty Tryd.prog 60 false 1 [.nilFunc] 8 := ⟨by kernel_rfl, by kernel_rfl, rfl, rfl, rfl, by simp⟩
instance ty61 : Ty Tryd.prog 61 false 1 [.nilFunc] 8 := ⟨by kernel_rfl, by kernel_rfl, rfl, rfl, rfl, by simp⟩
instance ty62 : Ty Tryd.prog 62 true 2 [.int .i64 0, .int .i64 0] 16 := ⟨by kernel_rfl, by kernel_rfl, rfl, rfl, rfl, by simp⟩
instance fld62_0 : FldT Tryd.prog 62 0 0 := ⟨by kernel_rfl⟩
instance fld62_1 : FldT Tryd.prog 62 1 1 := ⟨by kernel_rfl⟩
instance str62 : StructT Tryd.prog 62 [(0, 1), (1, 1)] := ⟨by kernel_rfl⟩
instance ty63 : Ty Tryd.prog 63 true 2 [.int .i64 0, .int .i64 0] 16 := ⟨by kernel_rfl, by kernel_rfl, rfl, rfl, rfl, by simp⟩
instance fld63_0 : FldT Tryd.prog 63 0 0 := ⟨by kernel_rfl⟩
instance fld63_1 : FldT Tryd.prog 63 1 1 := ⟨by kernel_rfl⟩
instance str63 : StructT Tryd.prog 63 [(0, 1), (1, 1)] := ⟨by kernel_rfl⟩
instance ty64 : Ty Tryd.prog 64 false 1 [.nilFunc] 8 := ⟨by kernel_rfl, by kernel_rfl, rfl, rfl, rfl, by simp⟩
instance ty65 : Ty Tryd.prog 65 false 1 [.nilFunc] 8 := ⟨by kernel_rfl, by kernel_rfl, rfl, rfl, rfl, by simp⟩
instance ty66 : Ty Tryd.prog 66 false 1 [.nilFunc] 8 := ⟨by kernel_rfl, by kernel_rfl, rfl, rfl, rfl, by simp⟩
instance ty67 : Ty Tryd.prog 67 false 1 [.nilFunc] 8 := ⟨by kernel_rfl, by kernel_rfl, rfl, rfl, rfl, by simp⟩
instance ty69 : Ty Tryd.prog 69 false 1 [.nilFunc] 8 := ⟨by kernel_rfl, by kernel_rfl, rfl, rfl, rfl, by simp⟩
instance ty70 : Ty Tryd.prog 70 false 1 [.nilFunc] 8 := ⟨by kernel_rfl, by kernel_rfl, rfl, rfl, rfl, by simp⟩
instance ty71 : Ty Tryd.prog 71 false 1 [.nilFunc] 8 := ⟨by kernel_rfl, by kernel_rfl, rfl, rfl, rfl, by simp⟩
instance ty72 : Ty Tryd.prog 72 false 1 [.nilFunc] 8 := ⟨by kernel_rfl, by kernel_rfl, rfl, rfl, rfl, by simp⟩
instance ty73 : Ty Tryd.prog 73 false 1 [.nilFunc] 8 := ⟨by kernel_rfl, by kernel_rfl, rfl, rfl, rfl, by simp⟩
instance ty74 : Ty Tryd.prog 74 false 1 [.nilFunc] 8 := ⟨by kernel_rfl, by kernel_rfl, rfl, rfl, rfl, by simp⟩
instance ty75 : Ty Tryd.prog 75 false 1 [.nilFunc] 8 := ⟨by kernel_rfl, by kernel_rfl, rfl, rfl, rfl, by simp⟩
instance ty76 : Ty Tryd.prog 76 false 1 [.nilFunc] 8 := ⟨by kernel_rfl, by kernel_rfl, rfl, rfl, rfl, by simp⟩
instance ty77 : Ty Tryd.prog 77 false 1 [.nilFunc] 8 := ⟨by kernel_rfl, by kernel_rfl, rfl, rfl, rfl, by simp⟩
instance ty78 : Ty Tryd.prog 78 false 1 [.slice none 0 0] 24 := ⟨by kernel_rfl, by kernel_rfl, rfl, rfl, rfl, by simp⟩
instance sl78 : SlT Tryd.prog 78 5 := ⟨by kernel_rfl⟩
instance ty79 : Ty Tryd.prog 79 false 1 [.nilFunc] 8 := ⟨by kernel_rfl, by kernel_rfl, rfl, rfl, rfl, by simp⟩
instance ty80 : Ty Tryd.prog 80 false 1 [.nilFunc] 8 := ⟨by kernel_rfl, by kernel_rfl, rfl, rfl, rfl, by simp⟩
instance ty81 : Ty Tryd.prog 81 false 1 [.nilFunc] 8 := ⟨by kernel_rfl, by kernel_rfl, rfl, rfl, rfl, by simp⟩
instance ty82 : Ty Tryd.prog 82 false 1 [.nilFunc] 8 := ⟨by kernel_rfl, by kernel_rfl, rfl, rfl, rfl, by simp⟩
instance ty83 : Ty Tryd.prog 83 false 1 [.nilFunc] 8 := ⟨by kernel_rfl, by kernel_rfl, rfl, rfl, rfl, by simp⟩
instance ty84 : Ty Tryd.prog 84 false 1 [.nilFunc] 8 := ⟨by kernel_rfl, by kernel_rfl, rfl, rfl, rfl, by simp⟩
instance ty85 : Ty Tryd.prog 85 false 1 [.nilFunc] 8 := ⟨by kernel_rfl, by kernel_rfl, rfl, rfl, rfl, by simp⟩
instance ty86 : Ty Tryd.prog 86 false 1 [.nilFunc] 8 := ⟨by kernel_rfl, by kernel_rfl, rfl, rfl, rfl, by simp⟩
instance ty88 : Ty Tryd.prog 88 false 1 [.nilFunc] 8 := ⟨by kernel_rfl, by kernel_rfl, rfl, rfl, rfl, by simp⟩
instance ty89 : Ty Tryd.prog 89 false 1 [.nilFunc] 8 := ⟨by kernel_rfl, by kernel_rfl, rfl, rfl, rfl, by simp⟩
instance ty90 : Ty Tryd.prog 90 false 1 [.nilFunc] 8 := ⟨by kernel_rfl, by kernel_rfl, rfl, rfl, rfl, by simp⟩
instance ty91 : Ty Tryd.prog 91 false 1 [.nilFunc] 8 := ⟨by kernel_rfl, by kernel_rfl, rfl, rfl, rfl, by simp⟩
instance ty92 : Ty Tryd.prog 92 false 1 [.map none] 8 := ⟨by kernel_rfl, by kernel_rfl, rfl, rfl, rfl, by simp⟩
instance ty93 : Ty Tryd.prog 93 false 1 [.nilFunc] 8 := ⟨by kernel_rfl, by kernel_rfl, rfl, rfl, rfl, by simp⟩
instance ty94 : Ty Tryd.prog 94 false 1 [.slice none 0 0] 24 := ⟨by kernel_rfl, by kernel_rfl, rfl, rfl, rfl, by simp⟩
instance sl94 : SlT Tryd.prog 94 4 := ⟨by kernel_rfl⟩
instance ty95 : Ty Tryd.prog 95 false 1 [.nilFunc] 8 := ⟨by kernel_rfl, by kernel_rfl, rfl, rfl, rfl, by simp⟩
instance ty96 : Ty Tryd.prog 96 false 1 [.nilFunc] 8 := ⟨by kernel_rfl, by kernel_rfl, rfl, rfl, rfl, by simp⟩
instance ty97 : Ty Tryd.prog 97 false 1 [.nilFunc] 8 := ⟨by kernel_rfl, by kernel_rfl, rfl, rfl, rfl, by simp⟩
instance ty98 : Ty Tryd.prog 98 false 1 [.slice none 0 0] 24 := ⟨by kernel_rfl, by kernel_rfl, rfl, rfl, rfl, by simp⟩
instance sl98 : SlT Tryd.prog 98 78 := ⟨by kernel_rfl⟩
instance ty99 : Ty Tryd.prog 99 false 1 [.nilFunc] 8 := ⟨by kernel_rfl, by kernel_rfl, rfl, rfl, rfl, by simp⟩
instance ty100 : Ty Tryd.prog 100 true 32 [.int .u8 0, .int .u8 0, .int .u8 0, .int .u8 0, .int .u8 0, .int .u8 0, .int .u8 0, .int .u8 0, .int .u8 0, .int .u8 0, .int .u8 0, .int .u8 0, .int .u8 0, .int .u8 0, .int .u8 0, .int .u8 0, .int .u8 0, .int .u8 0, .int .u8 0, .int .u8 0, .int .u8 0, .int .u8 0, .int .u8 0, .int .u8 0, .int .u8 0, .int .u8 0, .int .u8 0, .int .u8 0, .int .u8 0, .int .u8 0, .int .u8 0, .int .u8 0] 32 := ⟨by kernel_rfl, by kernel_rfl, rfl, rfl, rfl, by simp⟩
instance arr100 : ArrT Tryd.prog 100 32 5 := ⟨by kernel_rfl⟩
instance ty101 : Ty Tryd.prog 101 false 1 [.nilFunc] 8 := ⟨by kernel_rfl, by kernel_rfl, rfl, rfl, rfl, by simp⟩
instance ty102 : Ty Tryd.prog 102 false 1 [.nilFunc] 8 := ⟨by kernel_rfl, by kernel_rfl, rfl, rfl, rfl, by simp⟩
instance ty103 : Ty Tryd.prog 103 false 1 [.int .u64 0] 8 := ⟨by kernel_rfl, by kernel_rfl, rfl, rfl, rfl, by simp⟩
instance int103 : IntT Tryd.prog 103 .u64 := ⟨by kernel_rfl⟩
instance ty104 : Ty Tryd.prog 104 false 1 [.int .u64 0] 8 := ⟨by kernel_rfl, by kernel_rfl, rfl, rfl, rfl, by simp⟩
instance int104 : IntT Tryd.prog 104 .u64 := ⟨by kernel_rfl⟩
instance ty105 : Ty Tryd.prog 105 false 1 [.nilFunc] 8 := ⟨by kernel_rfl, by kernel_rfl, rfl, rfl, rfl, by simp⟩
instance ty106 : Ty Tryd.prog 106 false 1 [.nilFunc] 8 := ⟨by kernel_rfl, by kernel_rfl, rfl, rfl, rfl, by simp⟩
instance ty107 : Ty Tryd.prog 107 false 1 [.nilFunc] 8 := ⟨by kernel_rfl, by kernel_rfl, rfl, rfl, rfl, by simp⟩
instance ty108 : Ty Tryd.prog 108 false 1 [.nilFunc] 8 := ⟨by kernel_rfl, by kernel_rfl, rfl, rfl, rfl, by simp⟩
instance ty109 : Ty Tryd.prog 109 false 1 [.int .u32 0] 4 := ⟨by kernel_rfl, by kernel_rfl, rfl, rfl, rfl, by simp⟩
instance int109 : IntT Tryd.prog 109 .u32 := ⟨by kernel_rfl⟩
instance ty110 : Ty Tryd.prog 110 true 8 [.int .u32 0, .int .u32 0, .int .u32 0, .int .u32 0, .int .u32 0, .int .u32 0, .int .u32 0, .int .u32 0] 32 := ⟨by kernel_rfl, by kernel_rfl, rfl, rfl, rfl, by simp⟩
instance arr110 : ArrT Tryd.prog 110 8 109 := ⟨by kernel_rfl⟩
instance ty111 : Ty Tryd.prog 111 true 8 [.int .u32 0, .int .u32 0, .int .u32 0, .int .u32 0, .int .u32 0, .int .u32 0, .int .u32 0, .int .u32 0] 32 := ⟨by kernel_rfl, by kernel_rfl, rfl, rfl, rfl, by simp⟩
instance arr111 : ArrT Tryd.prog 111 8 109 := ⟨by kernel_rfl⟩
instance ty112 : Ty Tryd.prog 112 false 1 [.nilFunc] 8 := ⟨by kernel_rfl, by kernel_rfl, rfl, rfl, rfl, by simp⟩
instance ty113 : Ty Tryd.prog 113 false 1 [.nilFunc] 8 := ⟨by kernel_rfl, by kernel_rfl, rfl, rfl, rfl, by simp⟩
instance ty114 : Ty Tryd.prog 114 false 1 [.nilFunc] 8 := ⟨by kernel_rfl, by kernel_rfl, rfl, rfl, rfl, by simp⟩
instance ty115 : Ty Tryd.prog 115 false 1 [.nilFunc] 8 := ⟨by kernel_rfl, by kernel_rfl, rfl, rfl, rfl, by simp⟩
instance ty116 : Ty Tryd.prog 116 false 1 [.nilFunc] 8 := ⟨by kernel_rfl, by kernel_rfl, rfl, rfl, rfl, by simp⟩
instance ty117 : Ty Tryd.prog 117 false 1 [.slice none 0 0] 24 := ⟨by kernel_rfl, by kernel_rfl, rfl, rfl, rfl, by simp⟩
instance sl117 : SlT Tryd.prog 117 109 := ⟨by kernel_rfl⟩
instance ty118 : Ty Tryd.prog 118 false 1 [.nilFunc] 8 := ⟨by kernel_rfl, by kernel_rfl, rfl, rfl, rfl, by simp⟩
instance ty119 : Ty Tryd.prog 119 false 1 [.nilFunc] 8 := ⟨by kernel_rfl, by kernel_rfl, rfl, rfl, rfl, by simp⟩
instance ty120 : Ty Tryd.prog 120 true 64 [.int .u32 0, .int .u32 0, .int .u32 0, .int .u32 0, .int .u32 0, .int .u32 0, .int .u32 0, .int .u32 0, .int .u32 0, .int .u32 0, .int .u32 0, .int .u32 0, .int .u32 0, .int .u32 0, .int .u32 0, .int .u32 0, .int .u32 0, .int .u32 0, .int .u32 0, .int .u32 0, .int .u32 0, .int .u32 0, .int .u32 0, .int .u32 0, .int .u32 0, .int .u32 0, .int .u32 0, .int .u32 0, .int .u32 0, .int .u32 0, .int .u32 0, .int .u32 0, .int .u32 0, .int .u32 0, .int .u32 0, .int .u32 0, .int .u32 0, .int .u32 0, .int .u32 0, .int .u32 0, .int .u32 0, .int .u32 0, .int .u32 0, .int .u32 0, .int .u32 0, .int .u32 0, .int .u32 0, .int .u32 0, .int .u32 0, .int .u32 0, .int .u32 0, .int .u32 0, .int .u32 0, .int .u32 0, .int .u32 0, .int .u32 0, .int .u32 0, .int .u32 0, .int .u32 0, .int .u32 0, .int .u32 0, .int .u32 0, .int .u32 0, .int .u32 0] 256 := ⟨by kernel_rfl, by kernel_rfl, rfl, rfl, rfl, by simp⟩
instance arr120 : ArrT Tryd.prog 120 64 109 := ⟨by kernel_rfl⟩
instance ty121 : Ty Tryd.prog 121 false 1 [.nilFunc] 8 := ⟨by kernel_rfl, by kernel_rfl, rfl, rfl, rfl, by simp⟩
instance ty122 : Ty Tryd.prog 122 false 1 [.nilFunc] 8 := ⟨by kernel_rfl, by kernel_rfl, rfl, rfl, rfl, by simp⟩
instance ty123 : Ty Tryd.prog 123 false 1 [.nilFunc] 8 := ⟨by kernel_rfl, by kernel_rfl, rfl, rfl, rfl, by simp⟩
instance ty124 : Ty Tryd.prog 124 false 1 [.nilFunc] 8 := ⟨by kernel_rfl, by kernel_rfl, rfl, rfl, rfl, by simp⟩
instance ty125 : Ty Tryd.prog 125 false 1 [.nilFunc] 8 := ⟨by kernel_rfl, by kernel_rfl, rfl, rfl, rfl, by simp⟩
instance ty126 : Ty Tryd.prog 126 false 1 [.nilFunc] 8 := ⟨by kernel_rfl, by kernel_rfl, rfl, rfl, rfl, by simp⟩
instance ty127 : Ty Tryd.prog 127 true 4 [.pointer none, .pointer none, .pointer none, .string ByteArray.empty] 40 := ⟨by kernel_rfl, by kernel_rfl, rfl, rfl, rfl, by simp⟩
instance fld127_0 : FldT Tryd.prog 127 0 0 := ⟨by kernel_rfl⟩
instance fld127_1 : FldT Tryd.prog 127 1 1 := ⟨by kernel_rfl⟩
instance fld127_2 : FldT Tryd.prog 127 2 2 := ⟨by kernel_rfl⟩
instance fld127_3 : FldT Tryd.prog 127 3 3 := ⟨by kernel_rfl⟩
instance str127 : StructT Tryd.prog 127 [(0, 1), (1, 1), (2, 1), (3, 1)] := ⟨by kernel_rfl⟩
instance ty128 : Ty Tryd.prog 128 true 4 [.pointer none, .pointer none, .pointer none, .string ByteArray.empty] 40 := ⟨by kernel_rfl, by kernel_rfl, rfl, rfl, rfl, by simp⟩
instance fld128_0 : FldT Tryd.prog 128 0 0 := ⟨by kernel_rfl⟩
instance fld128_1 : FldT Tryd.prog 128 1 1 := ⟨by kernel_rfl⟩
instance fld128_2 : FldT Tryd.prog 128 2 2 := ⟨by kernel_rfl⟩
instance fld128_3 : FldT Tryd.prog 128 3 3 := ⟨by kernel_rfl⟩
instance str128 : StructT Tryd.prog 128 [(0, 1), (1, 1), (2, 1), (3, 1)] := ⟨by kernel_rfl⟩
instance ty129 : Ty Tryd.prog 129 true 0 [] 0 := ⟨by kernel_rfl, by kernel_rfl, rfl, rfl, rfl, by simp⟩
instance arr129 : ArrT Tryd.prog 129 0 16 := ⟨by kernel_rfl⟩
instance ty130 : Ty Tryd.prog 130 true 0 [] 0 := ⟨by kernel_rfl, by kernel_rfl, rfl, rfl, rfl, by simp⟩
instance str130 : StructT Tryd.prog 130 [(0, 0)] := ⟨by kernel_rfl⟩
instance ty131 : Ty Tryd.prog 131 true 0 [] 0 := ⟨by kernel_rfl, by kernel_rfl, rfl, rfl, rfl, by simp⟩
instance str131 : StructT Tryd.prog 131 [(0, 0)] := ⟨by kernel_rfl⟩
instance ty132 : Ty Tryd.prog 132 false 1 [.nilFunc] 8 := ⟨by kernel_rfl, by kernel_rfl, rfl, rfl, rfl, by simp⟩
instance ty133 : Ty Tryd.prog 133 false 1 [.int .u8 0] 1 := ⟨by kernel_rfl, by kernel_rfl, rfl, rfl, rfl, by simp⟩
instance int133 : IntT Tryd.prog 133 .u8 := ⟨by kernel_rfl⟩
instance ty134 : Ty Tryd.prog 134 false 1 [.int .u8 0] 1 := ⟨by kernel_rfl, by kernel_rfl, rfl, rfl, rfl, by simp⟩
instance int134 : IntT Tryd.prog 134 .u8 := ⟨by kernel_rfl⟩
instance ty135 : Ty Tryd.prog 135 false 1 [.nilFunc] 8 := ⟨by kernel_rfl, by kernel_rfl, rfl, rfl, rfl, by simp⟩
instance ty136 : Ty Tryd.prog 136 false 1 [.pointer none] 8 := ⟨by kernel_rfl, by kernel_rfl, rfl, rfl, rfl, by simp⟩
instance ty137 : Ty Tryd.prog 137 false 1 [.int .i32 0] 4 := ⟨by kernel_rfl, by kernel_rfl, rfl, rfl, rfl, by simp⟩
instance int137 : IntT Tryd.prog 137 .i32 := ⟨by kernel_rfl⟩
instance ty138 : Ty Tryd.prog 138 false 1 [.int .i32 0] 4 := ⟨by kernel_rfl, by kernel_rfl, rfl, rfl, rfl, by simp⟩
instance int138 : IntT Tryd.prog 138 .i32 := ⟨by kernel_rfl⟩
instance ty139 : Ty Tryd.prog 139 true 11 [.int .u64 0, .int .u64 0, .int .u32 0, .int .u8 0, .int .u8 0, .int .u8 0, .int .u8 0, .nilFunc, .pointer none, .int .i32 0, .int .i32 0] 48 := ⟨by kernel_rfl, by kernel_rfl, rfl, rfl, rfl, by simp⟩
instance fld139_0 : FldT Tryd.prog 139 0 0 := ⟨by kernel_rfl⟩
instance fld139_1 : FldT Tryd.prog 139 1 1 := ⟨by kernel_rfl⟩
instance fld139_2 : FldT Tryd.prog 139 2 2 := ⟨by kernel_rfl⟩
instance fld139_3 : FldT Tryd.prog 139 3 3 := ⟨by kernel_rfl⟩
instance fld139_4 : FldT Tryd.prog 139 4 4 := ⟨by kernel_rfl⟩
instance fld139_5 : FldT Tryd.prog 139 5 5 := ⟨by kernel_rfl⟩
instance fld139_6 : FldT Tryd.prog 139 6 6 := ⟨by kernel_rfl⟩
instance fld139_7 : FldT Tryd.prog 139 7 7 := ⟨by kernel_rfl⟩
instance fld139_8 : FldT Tryd.prog 139 8 8 := ⟨by kernel_rfl⟩
instance fld139_9 : FldT Tryd.prog 139 9 9 := ⟨by kernel_rfl⟩
instance fld139_10 : FldT Tryd.prog 139 10 10 := ⟨by kernel_rfl⟩
instance str139 : StructT Tryd.prog 139 [(0, 1), (1, 1), (2, 1), (3, 1), (4, 1), (5, 1), (6, 1), (7, 1), (8, 1), (9, 1), (10, 1)] := ⟨by kernel_rfl⟩
instance ty140 : Ty Tryd.prog 140 true 11 [.int .u64 0, .int .u64 0, .int .u32 0, .int .u8 0, .int .u8 0, .int .u8 0, .int .u8 0, .nilFunc, .pointer none, .int .i32 0, .int .i32 0] 48 := ⟨by kernel_rfl, by kernel_rfl, rfl, rfl, rfl, by simp⟩
instance fld140_0 : FldT Tryd.prog 140 0 0 := ⟨by kernel_rfl⟩
instance fld140_1 : FldT Tryd.prog 140 1 1 := ⟨by kernel_rfl⟩
instance fld140_2 : FldT Tryd.prog 140 2 2 := ⟨by kernel_rfl⟩
instance fld140_3 : FldT Tryd.prog 140 3 3 := ⟨by kernel_rfl⟩
instance fld140_4 : FldT Tryd.prog 140 4 4 := ⟨by kernel_rfl⟩
instance fld140_5 : FldT Tryd.prog 140 5 5 := ⟨by kernel_rfl⟩
instance fld140_6 : FldT Tryd.prog 140 6 6 := ⟨by kernel_rfl⟩
instance fld140_7 : FldT Tryd.prog 140 7 7 := ⟨by kernel_rfl⟩
instance fld140_8 : FldT Tryd.prog 140 8 8 := ⟨by kernel_rfl⟩
instance fld140_9 : FldT Tryd.prog 140 9 9 := ⟨by kernel_rfl⟩
instance fld140_10 : FldT Tryd.prog 140 10 10 := ⟨by kernel_rfl⟩
instance str140 : StructT Tryd.prog 140 [(0, 1), (1, 1), (2, 1), (3, 1), (4, 1), (5, 1), (6, 1), (7, 1), (8, 1), (9, 1), (10, 1)] := ⟨by kernel_rfl⟩
instance ty141 : Ty Tryd.prog 141 false 1 [.pointer none] 8 := ⟨by kernel_rfl, by kernel_rfl, rfl, rfl, rfl, by simp⟩
instance fn3 : Body Tryd.prog 3 := ⟨by kernel_rfl⟩  -- bootchain/bootchainlaw21.EvidenceMake
instance fn4 : Body Tryd.prog 4 := ⟨by kernel_rfl⟩  -- bootchain/bootchainlaw21.EvidenceCheck
instance fn5 : Body Tryd.prog 5 := ⟨by kernel_rfl⟩  -- bootchain/bootchainlaw21.EvidenceComplete
instance fn6 : Body Tryd.prog 6 := ⟨by kernel_rfl⟩  -- bootchain/bootchainlaw21.EvidenceSound
instance fn7 : Body Tryd.prog 7 := ⟨by kernel_rfl⟩  -- bootchain/bootchainlaw21.EvidenceOmission
instance fn8 : Body Tryd.prog 8 := ⟨by kernel_rfl⟩  -- bootchain/bootchainlaw21.EvidenceTampered
instance fn9 : Body Tryd.prog 9 := ⟨by kernel_rfl⟩  -- bootchain/bootchainlaw21.sanity
instance fn10 : Body Tryd.prog 10 := ⟨by kernel_rfl⟩  -- bootchain/bootchainref21.Few
instance fn11 : Body Tryd.prog 11 := ⟨by kernel_rfl⟩  -- bootchain/evidence.Make
instance fn12 : Body Tryd.prog 12 := ⟨by kernel_rfl⟩  -- bootchain/bootchainref21.Make
instance fn13 : Body Tryd.prog 13 := ⟨by kernel_rfl⟩  -- bootchain/bootchainref21.Same
instance fn14 : Body Tryd.prog 14 := ⟨by kernel_rfl⟩  -- bootchain/bootchainlaw21.small
instance fn15 : Body Tryd.prog 15 := ⟨by kernel_rfl⟩  -- bootchain/evidence.Check
instance fn16 : Body Tryd.prog 16 := ⟨by kernel_rfl⟩  -- bootchain/bootchainref21.Check
instance fn17 : Body Tryd.prog 17 := ⟨by kernel_rfl⟩  -- bootchain/evidence.Registers
instance fn18 : Body Tryd.prog 18 := ⟨by kernel_rfl⟩  -- bootchain/bootchainref21.Registers
instance fn19 : Body Tryd.prog 19 := ⟨by kernel_rfl⟩  -- bootchain/bootchainlaw21.valid
instance fn20 : Body Tryd.prog 20 := ⟨by kernel_rfl⟩  -- bootchain/register.Fold
instance fn21 : Body Tryd.prog 21 := ⟨by kernel_rfl⟩  -- bootchain/register.Head
instance fn22 : Body Tryd.prog 22 := ⟨by kernel_rfl⟩  -- bootchain/bootchainref21.Collides
instance fn23 : Body Tryd.prog 23 := ⟨by kernel_rfl⟩  -- bootchain/register.Leaf
instance fn24 : Body Tryd.prog 24 := ⟨by kernel_rfl⟩  -- bootchain/bootchainref03.Collides
instance fn25 : Body Tryd.prog 25 := ⟨by kernel_rfl⟩  -- bootchain/bootchainref21.Leaves
instance fn26 : Body Tryd.prog 26 := ⟨by kernel_rfl⟩  -- bootchain/bootchainlaw21.sample
instance fn27 : Body Tryd.prog 27 := ⟨by kernel_rfl⟩  -- bootchain/evidence.Make$1
instance fn28 : Body Tryd.prog 28 := ⟨by kernel_rfl⟩  -- bootchain/evidence.distinct
instance fn29 : Body Tryd.prog 29 := ⟨by kernel_rfl⟩  -- bootchain/merkle.Prove
instance fn30 : Body Tryd.prog 30 := ⟨by kernel_rfl⟩  -- bootchain/evidence.leaves
instance fn31 : Body Tryd.prog 31 := ⟨by kernel_rfl⟩  -- bootchain/bootchainref20.Head
instance fn32 : Body Tryd.prog 32 := ⟨by kernel_rfl⟩  -- bootchain/bootchainref03.Prove
instance fn33 : Body Tryd.prog 33 := ⟨by kernel_rfl⟩  -- bootchain/bootchainref03.Same
instance fn34 : Body Tryd.prog 34 := ⟨by kernel_rfl⟩  -- bootchain/evidence.Check$1
instance fn35 : Body Tryd.prog 35 := ⟨by kernel_rfl⟩  -- bootchain/merkle.Verify
instance fn36 : Body Tryd.prog 36 := ⟨by kernel_rfl⟩  -- bootchain/bootchainref03.Verify
instance fn37 : Body Tryd.prog 37 := ⟨by kernel_rfl⟩  -- bootchain/bootchainref20.Leaf
instance fn38 : Body Tryd.prog 38 := ⟨by kernel_rfl⟩  -- bootchain/register.Start
instance fn39 : Body Tryd.prog 39 := ⟨by kernel_rfl⟩  -- bootchain/register.Extend
instance fn40 : Body Tryd.prog 40 := ⟨by kernel_rfl⟩  -- bootchain/bootchainref20.Start
instance fn41 : Body Tryd.prog 41 := ⟨by kernel_rfl⟩  -- bootchain/bootchainref20.Extend
instance fn42 : Body Tryd.prog 42 := ⟨by kernel_rfl⟩  -- bootchain/register.heads
instance fn43 : Body Tryd.prog 43 := ⟨by kernel_rfl⟩  -- bootchain/sha.Digest
instance fn44 : Body Tryd.prog 44 := ⟨by kernel_rfl⟩  -- bootchain/wire.Ints
instance fn45 : Body Tryd.prog 45 := ⟨by kernel_rfl⟩  -- bootchain/register.root[int]
instance fn46 : Body Tryd.prog 46 := ⟨by kernel_rfl⟩  -- bootchain/register.note
instance fn47 : Body Tryd.prog 47 := ⟨by kernel_rfl⟩  -- bootchain/bootchainref21.history
instance fn48 : Body Tryd.prog 48 := ⟨by kernel_rfl⟩  -- bootchain/bootchainref21.code
instance fn49 : Body Tryd.prog 49 := ⟨by kernel_rfl⟩  -- bootchain/wire.Int
instance fn50 : Body Tryd.prog 50 := ⟨by kernel_rfl⟩  -- bootchain/bootchainref03.Leaf
instance fn51 : Body Tryd.prog 51 := ⟨by kernel_rfl⟩  -- bootchain/bootchainref03.Split
instance fn52 : Body Tryd.prog 52 := ⟨by kernel_rfl⟩  -- bootchain/bootchainref03.Root
instance fn53 : Body Tryd.prog 53 := ⟨by kernel_rfl⟩  -- bootchain/bootchainref03.combine
instance fn54 : Body Tryd.prog 54 := ⟨by kernel_rfl⟩  -- bootchain/bootchainref03.Node
instance fn55 : Body Tryd.prog 55 := ⟨by kernel_rfl⟩  -- bootchain/evidence.distinct$1
instance fn56 : Body Tryd.prog 56 := ⟨by kernel_rfl⟩  -- bootchain/merkle.Prove$1
instance fn57 : Body Tryd.prog 57 := ⟨by kernel_rfl⟩  -- bootchain/merkle.split
instance fn58 : Body Tryd.prog 58 := ⟨by kernel_rfl⟩  -- bootchain/merkle.Root
instance fn59 : Body Tryd.prog 59 := ⟨by kernel_rfl⟩  -- bootchain/bootchainref02.Digest
instance fn60 : Body Tryd.prog 60 := ⟨by kernel_rfl⟩  -- bootchain/bootchainref01.Int
instance fn61 : Body Tryd.prog 61 := ⟨by kernel_rfl⟩  -- bootchain/bootchainref01.Ints
instance fn62 : Body Tryd.prog 62 := ⟨by kernel_rfl⟩  -- bootchain/merkle.leafDigest
instance fn63 : Body Tryd.prog 63 := ⟨by kernel_rfl⟩  -- bootchain/merkle.join
instance fn64 : Body Tryd.prog 64 := ⟨by kernel_rfl⟩  -- bootchain/register.Start$1
instance fn65 : Body Tryd.prog 65 := ⟨by kernel_rfl⟩  -- bootchain/bootchainref02.Raw
instance fn66 : Body Tryd.prog 66 := ⟨by kernel_rfl⟩  -- bootchain/register.heads$1
instance fn67 : Body Tryd.prog 67 := ⟨by kernel_rfl⟩  -- bootchain/sha.short
instance fn68 : Body Tryd.prog 68 := ⟨by kernel_rfl⟩  -- bootchain/sha.Sum
instance fn69 : Body Tryd.prog 69 := ⟨by kernel_rfl⟩  -- bootchain/sha.join
instance fn70 : Body Tryd.prog 70 := ⟨by kernel_rfl⟩  -- bootchain/bootchainref01.Bytes
instance fn71 : Body Tryd.prog 71 := ⟨by kernel_rfl⟩  -- bootchain/bootchainref02.short
instance fn72 : Body Tryd.prog 72 := ⟨by kernel_rfl⟩  -- bootchain/bootchainref02.Sum
instance fn73 : Body Tryd.prog 73 := ⟨by kernel_rfl⟩  -- bootchain/bootchainref01.zigzag
instance fn74 : Body Tryd.prog 74 := ⟨by kernel_rfl⟩  -- slices.Clone[[]byte,byte]
instance fn75 : Body Tryd.prog 75 := ⟨by kernel_rfl⟩  -- bootchain/sha.store
instance fn76 : Body Tryd.prog 76 := ⟨by kernel_rfl⟩  -- (bootchain/sha.state).compress
instance fn77 : Body Tryd.prog 77 := ⟨by kernel_rfl⟩  -- slices.Chunk[[]byte,byte]
instance fn78 : Body Tryd.prog 78 := ⟨by kernel_rfl⟩  -- bootchain/wire.Bytes
instance fn79 : Body Tryd.prog 79 := ⟨by kernel_rfl⟩  -- bootchain/bootchainref02.words
instance fn80 : Body Tryd.prog 80 := ⟨by kernel_rfl⟩  -- bootchain/bootchainref02.compress
instance fn81 : Body Tryd.prog 81 := ⟨by kernel_rfl⟩  -- bootchain/sha.load
instance fn82 : Body Tryd.prog 82 := ⟨by kernel_rfl⟩  -- bootchain/sha.rotr
instance fn83 : Body Tryd.prog 83 := ⟨by kernel_rfl⟩  -- slices.Chunk[[]byte,byte]$1
instance fn84 : Body Tryd.prog 84 := ⟨by kernel_rfl⟩  -- bootchain/bootchainref02.word
instance fn85 : Body Tryd.prog 85 := ⟨by kernel_rfl⟩  -- bootchain/bootchainref02.rot
instance fn86 : Body Tryd.prog 86 := ⟨by kernel_rfl⟩  -- math/bits.RotateLeft32
end Go.Proofs.YtgihhhdeoaplhaaDoor

/- Package wire: integers, encoded. -/
--@opt
namespace Go.Proofs.YtgihhhdeoaplhaaDoor
set_option linter.unusedSimpArgs false
set_option linter.unusedVariables false
open Go.RowKit Go.Sl

def zig (n : Int) : Nat := if 0 ≤ n then (2 * n).toNat else (-2 * n - 1).toNat
def encF : Nat → Nat → List UInt8
  | 0, _ => []
  | f + 1, u => if u < 128 then [UInt8.ofNat u] else UInt8.ofNat (128 + u % 128) :: encF f (u / 128)
/-- The encoding of an integer. -/
def encI (n : Int) : List UInt8 := encF 10 (zig n)

theorem zig_pos {n : Int} (h : 0 ≤ n) (hn : I64 n) : IntKind.u64.wrap (2 * IntKind.u64.wrap n) = (zig n : Nat) := by
  unfold I64 at hn
  simp only [zig, if_pos h, IntKind.wrap, IntKind.bits, IntKind.signed]
  simp
  omega

set_option maxRecDepth 8000 in
set_option maxHeartbeats 400000 in
theorem zigzag_c {S M} (w : World) (hst : St S M w) (n : Int) (hn : I64 n) :
    Rets Tryd.prog 73 [.int .i64 n] w fun v w' => v = .int .u64 (zig n : Nat) ∧ St S M w' := by
  unfold Rets
  by_cases h : 0 ≤ n
  · go_enter Tryd.func73, Tryd.ntmps73
    repeat' (first | ((fail_if_success (go_big_may)); (go_step)) | (with_reducible refine Sl.gate rfl ?_; (go_step)))
    go_ret
    exact ⟨_, rfl, congrArg _ (zig_pos h hn), hst⟩
  · go_enter Tryd.func73, Tryd.ntmps73
    repeat' (first | ((fail_if_success (go_big_may)); (go_step)) | (with_reducible refine Sl.gate rfl ?_; (go_step)))
    go_ret
    refine ⟨_, rfl, ?_, hst⟩
    congr 1
    have hw : wrap64 (-wrap64 (n + 1)) = -(n + 1) := by unfold I64 at hn; unfold wrap64; omega
    rw [hw]
    unfold I64 at hn
    simp only [zig, if_neg h, IntKind.wrap, IntKind.bits, IntKind.signed]
    simp
    omega

theorem bits_not64 {x : Int} (h0 : 0 ≤ x) (h1 : x < 18446744073709551616) : bits .xor .u64 (if IntKind.u64.signed = true then -1 else IntKind.u64.max) x = 18446744073709551615 - x := by
  have e : BitVec.ofInt 64 18446744073709551615 = BitVec.allOnes 64 := by decide
  show IntKind.u64.wrap ((BitVec.ofInt 64 18446744073709551615 ^^^ BitVec.ofInt 64 x).toNat : Int) = _
  rw [e, BitVec.allOnes_xor, BitVec.toNat_not, BitVec.toNat_ofInt]
  simp only [IntKind.wrap, IntKind.bits, IntKind.signed]
  simp
  omega

theorem zig_pos' {n : Int} (h : 0 ≤ n) (hn : I64 n) : IntKind.u64.wrap (IntKind.u64.wrap n * 2) = (zig n : Nat) := by
  rw [Int.mul_comm]; exact zig_pos h hn

theorem zig_neg {n : Int} (h : n < 0) (hn : I64 n) : bits .xor .u64 (if IntKind.u64.signed = true then -1 else IntKind.u64.max) (IntKind.u64.wrap (IntKind.u64.wrap n * 2)) = (zig n : Nat) := by
  have hx : IntKind.u64.wrap (IntKind.u64.wrap n * 2) = 2 * n + 18446744073709551616 := by
    unfold I64 at hn
    simp only [IntKind.wrap, IntKind.bits, IntKind.signed]
    simp
    omega
  unfold I64 at hn
  rw [hx, bits_not64 (by omega) (by omega), zig, if_neg (by omega)]
  omega

theorem zig_lt {n : Int} (hn : I64 n) : zig n < 18446744073709551616 := by
  unfold I64 at hn
  unfold zig
  split <;> omega

theorem pow10 : 18446744073709551616 < 128 ^ 10 := by simp

theorem or128 : ∀ x < 256, bits .or .u8 ((x : Nat) : Int) 128 = ((128 + x % 128 : Nat) : Int) := by decide +kernel

theorem u8_small {x : Nat} (h : x < 128) : ((UInt8.ofNat x).toNat : Int) = x := by
  rw [UInt8.toNat_ofNat']; omega
theorem or_byte (x : Nat) : bits .or .u8 ((x : Int) % 256) 128 = ((UInt8.ofNat (128 + x % 128)).toNat : Int) := by
  have h := or128 (x % 256) (Nat.mod_lt _ (by decide))
  rw [UInt8.toNat_ofNat']
  rw [show ((x : Int) % 256) = ((x % 256 : Nat) : Int) from by omega, h]
  omega

theorem encF_one {f u : Nat} (h : u < 128) : encF (f + 1) u = [UInt8.ofNat u] := by rw [encF, if_pos h]
theorem encF_more {f u : Nat} (h : ¬ u < 128) : encF (f + 1) u = UInt8.ofNat (128 + u % 128) :: encF f (u / 128) := by rw [encF, if_neg h]

set_option maxRecDepth 8000 in
set_option maxHeartbeats 400000 in
theorem int_c {S M} (w : World) (hst : St S M w) (n : Int) (hn : I64 n) :
    Rets Tryd.prog 49 [.int .i64 n] w fun v w' => St S (.sl v 5 1 (encI n).length (u8s (encI n)) :: M) w' := by
  unfold Rets

  by_cases h : 0 ≤ n
  · have hz' := Lib.hid (zig_pos' h hn)
    go_enter Tryd.func49, Tryd.ntmps49
    repeat' (((fail_if_success (go_big_may)); (go_step)))
    go_step3
    repeat' (first | ((fail_if_success (go_big_may)); (go_step)) | (with_reducible refine Sl.gate rfl ?_; (go_step)))
    go_step3
    repeat' (((fail_if_success (go_big_may)); (go_step)))
    go_loopg [3, 4] 10 (fun k v u wr => ∃ (x : Nat) (xs : List UInt8), v = .int .u64 x ∧ 1 ≤ k ∧ Hid (x < 128 ^ k ∧ xs ++ encF k x = encI n ∧ xs.length + k = 10) ∧ St S (.sl u 5 1 xs.length (u8s xs) :: M) wr)
    case atStart => exact ⟨zig n, [], congrArg _ hz'.out, by omega, ⟨Nat.lt_trans (zig_lt hn) pow10, by simp [encI], by simp⟩, hst.nil 5 1⟩
    case round =>
      clear hst
      obtain ⟨x, xs, rfl, hk, hx, hst⟩ := hrel
      have hu := sl_one hst
      have hxl : xs.length ≤ 10 := by have := hx.out.2.2; omega
      by_cases hlt : x < 128
      · repeat' (first | ((fail_if_success (go_big_may)); (go_step)) | (with_reducible refine Sl.gate rfl ?_; (go_step)))
        refine s_lit (vs := [.int .u8 (x : Int)]) hst inX inX rfl rfl (by simp [Value.cells]) rfl (by omega) (by omega) ?_
        clear hst; intro u w hst
        refine nX ?_
        repeat' (fail)
        refine s_append (j := 0) hst evX evX SlIn.h rfl inX inX inX (by simp [Value.cells, Value.oneCell']) (by omega) (by omega) (by decide) ?_
        clear hst; intro v' w hst
        refine nX ?_
        (try replace hst := nH hst)
        replace hst := hst.drop
        repeat' (((fail_if_success (go_big_may)); (go_step)))
        rw [Exit.noGoto_ret]
        go_ret
        refine ⟨_, rfl, ?_⟩
        obtain ⟨_, hx2, _⟩ := hx.out
        obtain ⟨k', rfl⟩ : ∃ k', gk = k' + 1 := ⟨gk - 1, by omega⟩
        rw [encF_one hlt] at hx2
        rw [← hx2, u8s_snoc, List.length_append, u8_small hlt]
        exact hst
      · repeat' (first | ((fail_if_success (go_big_may)); (go_step)) | (with_reducible refine Sl.gate rfl ?_; (go_step)))
        refine s_lit (vs := [.int .u8 (bits .or .u8 ((x : Int) % 256) 128)]) hst inX inX rfl rfl (by simp [Value.cells]) rfl (by omega) (by omega) ?_
        clear hst; intro u w hst
        refine nX ?_
        repeat' (fail)
        refine s_append (j := 0) hst evX evX SlIn.h rfl inX inX inX (by simp [Value.cells, Value.oneCell']) (by omega) (by omega) (by decide) ?_
        clear hst; intro v' w hst
        refine nX ?_
        (try replace hst := nH hst)
        replace hst := hst.drop
        repeat' (first | ((fail_if_success (go_big_may)); (go_step)) | (with_reducible refine Sl.gate rfl ?_; (go_step)))
        obtain ⟨hx1, hx2, hx3⟩ := hx.out
        obtain ⟨k', rfl⟩ : ∃ k', gk = k' + 1 := ⟨gk - 1, by omega⟩
        rw [encF_more hlt] at hx2
        go_roundg k'
        case measure => omega
        case rel =>
          refine ⟨x / 128, xs ++ [UInt8.ofNat (128 + x % 128)], by rw [Int.natCast_ediv]; rfl, ?_, ⟨Nat.div_lt_of_lt_mul (by rw [← Nat.pow_succ']; exact hx1), by rw [← hx2]; simp, by simp; omega⟩, ?_⟩
          · rcases Nat.eq_zero_or_pos k' with e | e
            · subst e; simp at hx1; omega
            · exact e
          · rw [u8s_snoc, List.length_append, ← or_byte]
            exact hst
  · have hz' := Lib.hid (zig_neg (by omega) hn)
    go_enter Tryd.func49, Tryd.ntmps49
    repeat' (((fail_if_success (go_big_may)); (go_step)))
    go_step3
    repeat' (first | ((fail_if_success (go_big_may)); (go_step)) | (with_reducible refine Sl.gate rfl ?_; (go_step)))
    go_step3
    repeat' (((fail_if_success (go_big_may)); (go_step)))
    go_loopg [3, 4] 10 (fun k v u wr => ∃ (x : Nat) (xs : List UInt8), v = .int .u64 x ∧ 1 ≤ k ∧ Hid (x < 128 ^ k ∧ xs ++ encF k x = encI n ∧ xs.length + k = 10) ∧ St S (.sl u 5 1 xs.length (u8s xs) :: M) wr)
    case atStart => exact ⟨zig n, [], congrArg _ hz'.out, by omega, ⟨Nat.lt_trans (zig_lt hn) pow10, by simp [encI], by simp⟩, hst.nil 5 1⟩
    case round =>
      clear hst
      obtain ⟨x, xs, rfl, hk, hx, hst⟩ := hrel
      have hu := sl_one hst
      have hxl : xs.length ≤ 10 := by have := hx.out.2.2; omega
      by_cases hlt : x < 128
      · repeat' (first | ((fail_if_success (go_big_may)); (go_step)) | (with_reducible refine Sl.gate rfl ?_; (go_step)))
        refine s_lit (vs := [.int .u8 (x : Int)]) hst inX inX rfl rfl (by simp [Value.cells]) rfl (by omega) (by omega) ?_
        clear hst; intro u w hst
        refine nX ?_
        repeat' (fail)
        refine s_append (j := 0) hst evX evX SlIn.h rfl inX inX inX (by simp [Value.cells, Value.oneCell']) (by omega) (by omega) (by decide) ?_
        clear hst; intro v' w hst
        refine nX ?_
        (try replace hst := nH hst)
        replace hst := hst.drop
        repeat' (((fail_if_success (go_big_may)); (go_step)))
        rw [Exit.noGoto_ret]
        go_ret
        refine ⟨_, rfl, ?_⟩
        obtain ⟨_, hx2, _⟩ := hx.out
        obtain ⟨k', rfl⟩ : ∃ k', gk = k' + 1 := ⟨gk - 1, by omega⟩
        rw [encF_one hlt] at hx2
        rw [← hx2, u8s_snoc, List.length_append, u8_small hlt]
        exact hst
      · repeat' (first | ((fail_if_success (go_big_may)); (go_step)) | (with_reducible refine Sl.gate rfl ?_; (go_step)))
        refine s_lit (vs := [.int .u8 (bits .or .u8 ((x : Int) % 256) 128)]) hst inX inX rfl rfl (by simp [Value.cells]) rfl (by omega) (by omega) ?_
        clear hst; intro u w hst
        refine nX ?_
        repeat' (fail)
        refine s_append (j := 0) hst evX evX SlIn.h rfl inX inX inX (by simp [Value.cells, Value.oneCell']) (by omega) (by omega) (by decide) ?_
        clear hst; intro v' w hst
        refine nX ?_
        (try replace hst := nH hst)
        replace hst := hst.drop
        repeat' (first | ((fail_if_success (go_big_may)); (go_step)) | (with_reducible refine Sl.gate rfl ?_; (go_step)))
        obtain ⟨hx1, hx2, hx3⟩ := hx.out
        obtain ⟨k', rfl⟩ : ∃ k', gk = k' + 1 := ⟨gk - 1, by omega⟩
        rw [encF_more hlt] at hx2
        go_roundg k'
        case measure => omega
        case rel =>
          refine ⟨x / 128, xs ++ [UInt8.ofNat (128 + x % 128)], by rw [Int.natCast_ediv]; rfl, ?_, ⟨Nat.div_lt_of_lt_mul (by rw [← Nat.pow_succ']; exact hx1), by rw [← hx2]; simp, by simp; omega⟩, ?_⟩
          · rcases Nat.eq_zero_or_pos k' with e | e
            · subst e; simp at hx1; omega
            · exact e
          · rw [u8s_snoc, List.length_append, ← or_byte]
            exact hst
end Go.Proofs.YtgihhhdeoaplhaaDoor

/- Package wire: the references' comparisons and their encoding of integers. -/
--@opt
namespace Go.Proofs.YtgihhhdeoaplhaaDoor
set_option linter.unusedSimpArgs false
set_option linter.unusedVariables false
open Go.RowKit Go.Sl

theorem wrap_u64 {n : Nat} (h : n < 18446744073709551616) : IntKind.u64.wrap (n : Int) = n := by
  simp only [IntKind.wrap, IntKind.bits, IntKind.signed]
  simp
  omega
theorem wrap_div {x : Nat} (h : x < 18446744073709551616) : IntKind.u64.wrap ((x : Int) / 128) = ((x / 128 : Nat) : Int) := by
  rw [show ((x : Int) / 128) = ((x / 128 : Nat) : Int) from by omega]
  exact wrap_u64 (by omega)

set_option maxRecDepth 8000 in
set_option maxHeartbeats 400000 in
theorem refInt_c {S M} (w : World) (hst : St S M w) (n : Int) (hn : I64 n) :
    Rets Tryd.prog 60 [.int .i64 n] w fun v w' => St S (.sl v 5 1 (encI n).length (u8s (encI n)) :: M) w' := by
  unfold Rets
  go_enter Tryd.func60, Tryd.ntmps60
  repeat' (first | (((with_reducible refine Sl.k_call ?_; ((refine s_call (zigzag_c w hst n hn) inX rfl ?_; clear hst; rintro v w ⟨rfl, hst⟩)))) <;> (try refine nX ?_) <;> (try replace hst := nH hst)) | ((fail_if_success (go_big_may)); (go_step)))
  go_loopg [3, 4] 10 (fun k v u wr => ∃ (x : Nat) (xs : List UInt8), v = .int .u64 x ∧ 1 ≤ k ∧ Hid (x < 128 ^ k ∧ xs ++ encF k x = encI n ∧ xs.length + k = 10 ∧ x < 18446744073709551616) ∧ St S (.sl u 5 1 xs.length (u8s xs) :: M) wr)
  case atStart => exact ⟨zig n, [], rfl, by omega, ⟨Nat.lt_trans (zig_lt hn) pow10, by simp [encI], by simp, zig_lt hn⟩, hst.nil 5 1⟩
  case round =>
    clear hst
    obtain ⟨x, xs, rfl, hk, hx, hst⟩ := hrel
    have hu := sl_one hst
    have hxl : xs.length ≤ 10 := by have := hx.out.2.2.1; omega
    by_cases hlt : x < 128
    · repeat' (first | ((fail_if_success (go_big_may)); (go_step)) | (with_reducible refine Sl.gate rfl ?_; (go_step)))
      refine s_lit (vs := [.int .u8 (x : Int)]) hst inX inX rfl rfl (by simp [Value.cells]) rfl (by omega) (by omega) ?_
      clear hst; intro u w hst
      refine nX ?_
      repeat' (fail)
      refine s_append (j := 0) hst evX evX SlIn.h rfl inX inX inX (by simp [Value.cells, Value.oneCell']) (by omega) (by omega) (by decide) ?_
      clear hst; intro v' w hst
      refine nX ?_
      (try replace hst := nH hst)
      replace hst := hst.drop
      repeat' (((fail_if_success (go_big_may)); (go_step)))
      go_ret
      refine ⟨_, rfl, ?_⟩
      obtain ⟨_, hx2, _⟩ := hx.out
      obtain ⟨k', rfl⟩ : ∃ k', gk = k' + 1 := ⟨gk - 1, by omega⟩
      rw [encF_one hlt] at hx2
      rw [← hx2, u8s_snoc, List.length_append, u8_small hlt]
      exact hst
    · repeat' (first | ((fail_if_success (go_big_may)); (go_step)) | (with_reducible refine Sl.gate rfl ?_; (go_step)))
      refine s_lit (vs := [.int .u8 (128 + (x : Int) % 128)]) hst inX inX rfl rfl (by simp [Value.cells]) rfl (by omega) (by omega) ?_
      clear hst; intro u w hst
      refine nX ?_
      repeat' (fail)
      refine s_append (j := 0) hst evX evX SlIn.h rfl inX inX inX (by simp [Value.cells, Value.oneCell']) (by omega) (by omega) (by decide) ?_
      clear hst; intro v' w hst
      refine nX ?_
      (try replace hst := nH hst)
      replace hst := hst.drop
      repeat' (first | ((fail_if_success (go_big_may)); (go_step)) | (with_reducible refine Sl.gate rfl ?_; (go_step)))
      obtain ⟨hx1, hx2, hx3, hx4⟩ := hx.out
      obtain ⟨k', rfl⟩ : ∃ k', gk = k' + 1 := ⟨gk - 1, by omega⟩
      rw [encF_more hlt] at hx2
      go_roundg k'
      case measure => omega
      case rel =>
        refine ⟨x / 128, xs ++ [UInt8.ofNat (128 + x % 128)], congrArg _ (wrap_div hx4), ?_, ⟨Nat.div_lt_of_lt_mul (by rw [← Nat.pow_succ']; exact hx1), by rw [← hx2]; simp, by simp; omega, Nat.lt_of_le_of_lt (Nat.div_le_self _ _) hx4⟩, ?_⟩
        · rcases Nat.eq_zero_or_pos k' with e | e
          · subst e; simp at hx1; omega
          · exact e
        · rw [u8s_snoc, List.length_append, show ((UInt8.ofNat (128 + x % 128)).toNat : Int) = 128 + (x : Int) % 128 from by rw [UInt8.toNat_ofNat']; omega]
          exact hst
end Go.Proofs.YtgihhhdeoaplhaaDoor

/- Package wire: decoding an integer. -/
--@opt
namespace Go.Proofs.YtgihhhdeoaplhaaDoor
set_option linter.unusedSimpArgs false
set_option linter.unusedVariables false
open Go.RowKit Go.Sl

/-- The integer of a number. -/
def unzig (u : Nat) : Int := if u % 2 = 1 then -((u / 2 : Nat) : Int) - 1 else ((u / 2 : Nat) : Int)
/-- Decoding: so many bytes may yet come, this is the next one's place, so much has been read. -/
def getF : Nat → Nat → Nat → List UInt8 → Int × Nat × Nat
  | 0, _, _, _ => (0, 0, 7)
  | _ + 1, _, _, [] => (0, 0, 6)
  | f + 1, k, u, c :: r =>
    if 128 ≤ c.toNat then getF f (k + 1) (u + c.toNat % 128 * 2 ^ (7 * k)) r
    else if (c.toNat = 0 ∧ 0 < k) ∨ (k = 9 ∧ 1 < c.toNat) then (0, 0, 7) else (unzig (u + c.toNat % 128 * 2 ^ (7 * k)), k + 1, 0)
def getI (b : List UInt8) : Int × Nat × Nat := getF 10 0 0 b
def triple (r : Int × Nat × Nat) : Value := .tuple #[.int .i64 r.1, .int .i64 (r.2.1 : Nat), .int .i64 (r.2.2 : Nat)]

theorem and127 : ∀ x < 256, bits .and .u8 ((x : Nat) : Int) 127 = ((x % 128 : Nat) : Int) := by decide +kernel
theorem wrap_nat (n : Nat) : IntKind.u64.wrap (n : Int) = ((n % 2 ^ 64 : Nat) : Int) := by
  simp only [IntKind.wrap, IntKind.bits, IntKind.signed]
  simp
theorem bits_or_nat (a b : Nat) : bits .or .u64 (a : Int) (b : Int) = (((a ||| b) % 2 ^ 64 : Nat) : Int) := by
  show IntKind.u64.wrap (((BitVec.ofInt 64 (a : Int) ||| BitVec.ofInt 64 (b : Int)).toNat : Nat) : Int) = _
  rw [BitVec.ofInt_natCast, BitVec.ofInt_natCast, BitVec.toNat_or, BitVec.toNat_ofNat, BitVec.toNat_ofNat, wrap_nat, ← Nat.or_mod_two_pow]
  simp
theorem or_add {u c i : Nat} (h : u < 2 ^ i) : u ||| c * 2 ^ i = u + c * 2 ^ i := by
  rw [← Nat.shiftLeft_eq, Nat.or_comm, ← Nat.shiftLeft_add_eq_or_of_lt h, Nat.add_comm]

/-- One more group of seven bits. -/
theorem or_step (c : UInt8) {x : Int} {u k : Nat} (hx : x = u) (hu : u < 2 ^ (7 * k)) :
    bits .or .u64 x (IntKind.u64.wrap (IntKind.u64.wrap (bits .and .u8 (c.toNat : Int) 127) * 2 ^ (7 * k))) = (((u + c.toNat % 128 * 2 ^ (7 * k)) % 2 ^ 64 : Nat) : Int) := by
  subst hx
  rw [and127 _ c.toNat_lt, wrap_u64 (by omega), show (((c.toNat % 128 : Nat) : Int) * 2 ^ (7 * k)) = ((c.toNat % 128 * 2 ^ (7 * k) : Nat) : Int) from by push_cast; rfl, wrap_nat, bits_or_nat,
    Nat.or_mod_two_pow, Nat.mod_mod, ← Nat.or_mod_two_pow, or_add hu]
theorem group_lt {c u k : Nat} (hu : u < 2 ^ (7 * k)) : u + c % 128 * 2 ^ (7 * k) < 2 ^ (7 * (k + 1)) := by
  have h := Nat.mul_le_mul_right (2 ^ (7 * k)) (show c % 128 ≤ 127 by omega)
  rw [Nat.mul_succ, Nat.pow_add, Nat.mul_comm (2 ^ (7 * k))]
  generalize c % 128 * 2 ^ (7 * k) = m at *
  omega
theorem getF_more {f k u : Nat} {c : UInt8} {r : List UInt8} (h : 128 ≤ c.toNat) : getF (f + 1) k u (c :: r) = getF f (k + 1) (u + c.toNat % 128 * 2 ^ (7 * k)) r := by rw [getF, if_pos h]
theorem getF_bad {f k u : Nat} {c : UInt8} {r : List UInt8} (h : ¬ 128 ≤ c.toNat) (hb : (c.toNat = 0 ∧ 0 < k) ∨ (k = 9 ∧ 1 < c.toNat)) : getF (f + 1) k u (c :: r) = (0, 0, 7) := by rw [getF, if_neg h, if_pos hb]
theorem getF_ok {f k u : Nat} {c : UInt8} {r : List UInt8} (h : ¬ 128 ≤ c.toNat) (hb : ¬ ((c.toNat = 0 ∧ 0 < k) ∨ (k = 9 ∧ 1 < c.toNat))) : getF (f + 1) k u (c :: r) = (unzig (u + c.toNat % 128 * 2 ^ (7 * k)), k + 1, 0) := by rw [getF, if_neg h, if_neg hb]
theorem pow_le63 {k : Nat} (h : k ≤ 9) : 2 ^ (7 * k) ≤ 2 ^ 63 := Nat.pow_le_pow_right (by omega) (by omega)

theorem and_one (u : Nat) : bits .and .u64 (u : Int) 1 = ((u % 2 : Nat) : Int) := by
  show IntKind.u64.wrap (((BitVec.ofInt 64 (u : Int) &&& BitVec.ofInt 64 ((1 : Nat) : Int)).toNat : Nat) : Int) = _
  rw [BitVec.ofInt_natCast, BitVec.ofInt_natCast, BitVec.toNat_and, BitVec.toNat_ofNat, BitVec.toNat_ofNat, wrap_nat, Nat.mod_eq_of_lt (a := 1) (by decide), Nat.and_one_is_mod]
  omega
theorem xor_neg {n : Nat} (h : n < 2 ^ 63) : bits .xor .i64 (if IntKind.i64.signed = true then -1 else 9223372036854775807) ((n : Nat) : Int) = -((n : Nat) : Int) - 1 := by
  have e : BitVec.ofInt 64 (-1) = BitVec.allOnes 64 := by decide
  show IntKind.i64.wrap (((BitVec.ofInt 64 (-1) ^^^ BitVec.ofInt 64 (n : Int)).toNat : Nat) : Int) = _
  rw [e, BitVec.allOnes_xor, BitVec.toNat_not, BitVec.ofInt_natCast, BitVec.toNat_ofNat, Nat.mod_eq_of_lt (by omega)]
  simp only [IntKind.wrap, IntKind.bits, IntKind.signed]
  simp
  omega
theorem unzig_even {u : Nat} (h : u % 2 = 0) : unzig u = ((u / 2 : Nat) : Int) := by unfold unzig; rw [if_neg (by omega)]
theorem unzig_odd {u : Nat} (h : u % 2 = 1) : unzig u = -((u / 2 : Nat) : Int) - 1 := by unfold unzig; rw [if_pos h]
theorem wrap_half {u : Nat} (h : u < 2 ^ 64) : wrap64 ((u : Int) / 2) = ((u / 2 : Nat) : Int) := by
  unfold wrap64; omega

end Go.Proofs.YtgihhhdeoaplhaaDoor

/- Package wire: byte strings and lists, encoded. -/
--@opt
namespace Go.Proofs.YtgihhhdeoaplhaaDoor
set_option linter.unusedSimpArgs false
set_option linter.unusedVariables false
open Go.RowKit Go.Sl

abbrev Dg := Arr UInt8 16
def encB (b : List UInt8) : List UInt8 := encI b.length ++ b
def encL (l : List Int) : List UInt8 := encI l.length ++ l.flatMap encI
def encD (d : List Dg) : List UInt8 := encI d.length ++ d.flatMap (·.l)

theorem encF_len : ∀ f u, (encF f u).length ≤ f
  | 0, _ => by simp [encF]
  | f + 1, u => by
    have := encF_len f (u / 128)
    unfold encF
    split <;> simp <;> omega
theorem encI_len (n : Int) : (encI n).length ≤ 10 := encF_len 10 _
theorem nat_i64 {n : Nat} (h : n ≤ 1048576) : I64 (n : Int) := by unfold I64; omega

theorem flat_len (l : List Int) : (l.flatMap encI).length ≤ 10 * l.length := by
  induction l with
  | nil => simp
  | cons x l ih => have := encI_len x; simp only [List.flatMap_cons, List.length_append, List.length_cons]; omega
theorem dg_cells {S : Snap} {cl : List Value} {d : Dg} (h : Rep.R S cl d) : d.l.length = 16 ∧ cl = u8s d.l := ⟨h.1, h.2.eq_u8s⟩
theorem _root_.Go.Sl.RSl.dgs {S : Snap} {v : Value} {xs : List Dg} (h : RSl S v xs) : ∀ d ∈ xs, d.l.length = 16 := by
  intro x hx
  obtain ⟨i, hi, rfl⟩ := List.mem_iff_getElem.1 hx
  rcases h with ⟨ad, cap, _, h, _⟩ | ⟨b, o, cap, c, T, fz, _, _, _, _, h⟩
  · subst h; simp at hi
  · exact (h.at_ i hi).1
theorem dgs_len {xs : List Dg} (h : ∀ d ∈ xs, d.l.length = 16) (i : Nat) : ((xs.take i).flatMap (·.l)).length ≤ 16 * xs.length := by
  have h' : ∀ d ∈ xs.take i, d.l.length = 16 := fun d hd => h d (List.mem_of_mem_take hd)
  have hl : (xs.take i).length ≤ xs.length := by rw [List.length_take]; omega
  have : ((xs.take i).flatMap (·.l)).length = 16 * (xs.take i).length := by
    clear hl
    generalize xs.take i = ys at *
    induction ys with
    | nil => rfl
    | cons y ys ih =>
      have := ih fun d hd => h' d (.tail _ hd)
      have := h' y (.head _)
      simp only [List.flatMap_cons, List.length_append, List.length_cons]; omega
  omega
instance strT9 : StrT Tryd.prog 9 := ⟨by kernel_rfl⟩

set_option maxRecDepth 8000 in
set_option maxHeartbeats 400000 in
theorem bytes_c {S M} (w : World) (hst : St S M w) (b : List UInt8) (hm : b.length ≤ 1048576) :
    Rets Tryd.prog 78 [.string ⟨b.toArray⟩] w fun v w' => St S (.sl v 5 1 (encB b).length (u8s (encB b)) :: M) w' := by
  unfold Rets
  go_enter Tryd.func78, Tryd.ntmps78
  repeat' (first | (((with_reducible refine Sl.k_call ?_; ((refine s_call (int_c w hst (b.length : Nat) (nat_i64 hm)) inX rfl ?_; clear hst; rintro v w hst)))) <;> (try refine nX ?_) <;> (try replace hst := nH hst)) | ((fail_if_success (go_big_may)); (go_step)) | (((with_reducible refine Sl.k_call ?_; (refine s_qt hst (by exact qt_len_str evX inX) ?_))) <;> (try refine nX ?_)))
  have hel := encI_len b.length
  refine s_append_str (k := 0) hst evX rfl rfl inX inX (by kernel_rfl) (by omega) (by omega) ?_
  clear hst; intro v' w hst
  refine nX ?_
  repeat' (((fail_if_success (go_big_may)); (go_step)))
  go_ret
  refine ⟨_, rfl, ?_⟩
  rw [encB, u8s_append, List.length_append]
  exact hst

set_option maxRecDepth 8000 in
set_option maxHeartbeats 400000 in
theorem encInts_c {S M} (w : World) (hst : St S M w) (vl : Value) (xs : List Int) (hl : RSl S vl xs) (hm : xs.length ≤ 1048576) :
    Rets Tryd.prog 44 [vl] w fun v w' => St S (.sl v 5 1 (encL xs).length (u8s (encL xs)) :: M) w' := by
  unfold Rets
  go_enter Tryd.func44, Tryd.ntmps44
  repeat' (first | (((with_reducible refine Sl.k_call ?_; ((refine s_call (int_c w hst (xs.length : Nat) (nat_i64 hm)) inX rfl ?_; clear hst; rintro v w hst)))) <;> (try refine nX ?_) <;> (try replace hst := nH hst)) | ((fail_if_success (go_big_may)); (go_step)) | (((with_reducible refine Sl.k_call ?_; (refine s_qt hst (by exact qt_len evX asX inX) ?_))) <;> (try refine nX ?_)))
  go_loopw [3, 11] (fun u v wr => ∃ i : Nat, i ≤ xs.length ∧ v = .int .i64 i ∧ St S (.sl u 5 1 (encI xs.length ++ (xs.take i).flatMap encI).length (u8s (encI xs.length ++ (xs.take i).flatMap encI)) :: M) wr) (fun _ v _ => xs.length - (intOf v).toNat)
  case atStart => exact ⟨0, Nat.zero_le _, rfl, by simpa using hst⟩
  case round =>
    clear hst
    obtain ⟨i, hi, rfl, hst⟩ := hrel
    have hu := sl_one hst
    by_cases hlt : i < xs.length
    · have hcl : (encI xs.length ++ (xs.take i).flatMap encI).length ≤ 10 + 10 * i := by
        rw [List.length_append]
        have := encI_len xs.length
        have := flat_len (xs.take i)
        have : (xs.take i).length ≤ i := List.length_take_le _ _
        omega
      have htk : (xs.take (i + 1)).flatMap encI = (xs.take i).flatMap encI ++ encI xs[i] := by rw [List.take_add_one, List.getElem?_eq_getElem hlt, Option.toList_some, List.flatMap_append, List.flatMap_cons, List.flatMap_nil, List.append_nil]
      have Htk := Lib.hid htk
      clear htk
      have hxl := encI_len xs[i]
      generalize hc : encI xs.length ++ (xs.take i).flatMap encI = c at *
      have Hc := Lib.hid hc
      clear hc
      repeat' (first | (((with_reducible refine Sl.k_call ?_; ((refine s_call (int_c _ hst xs[i] hI) inX rfl ?_; clear hst; rintro v w hst)))) <;> (try refine nX ?_) <;> (try replace hst := nH hst)) | ((fail_if_success (go_big_may)); (go_step)) | ((first | (with_reducible refine Sl.k_load ?_; ((refine s_ex hst (qt_ldp_int evX asX inX) ?_; rintro v ⟨rfl, hI⟩))) | (with_reducible refine Sl.k_index ?_; (((refine s_ex hst (qt_index evX asX rfl inX inX omX omX) ?_); rintro v hp; (try simp only [Int.toNat_natCast, Int.toNat_natCast_add_one, Int.reduceToNat] at hp))))) <;> (try refine nX ?_)) | (with_reducible refine Sl.gate rfl ?_; (go_step)))
      refine s_append (j := 0) hst evX evX SlIn.h rfl inX inX inX (u8s_one _) (by omega) (by omega) (by decide) ?_
      clear hst; intro v' w hst
      (try refine nX ?_)
      (try replace hst := nH hst)
      replace hst := hst.drop
      repeat' (first | ((fail_if_success (go_big_may)); (go_step)) | (with_reducible refine Sl.gate rfl ?_; (go_step)))
      go_roundw
      case rel =>
        refine ⟨i + 1, by omega, by go_num, ?_⟩
        rw [Htk.out, ← List.append_assoc, Hc.out, u8s_append, List.length_append]
        exact hst
      case measure => simp [intOf]; omega
    · repeat' (first | ((fail_if_success (go_big_may)); (go_step)) | (with_reducible refine Sl.gate rfl ?_; (go_step)))
      go_ret
      refine ⟨_, rfl, ?_⟩
      rw [encL]
      rw [List.take_of_length_le (by omega)] at hst
      exact hst

end Go.Proofs.YtgihhhdeoaplhaaDoor

/- Package wire: lengths and byte strings, decoded. -/
--@opt
namespace Go.Proofs.YtgihhhdeoaplhaaDoor
set_option linter.unusedSimpArgs false
set_option linter.unusedVariables false
open Go.RowKit Go.Sl

theorem unzig_i64 {u : Nat} (h : u < 2 ^ 64) : I64 (unzig u) := by unfold unzig I64; split <;> omega

theorem getF_spec : ∀ (f k u : Nat) (r : List UInt8), f + k = 10 → u < 2 ^ (7 * k) →
    (getF f k u r).2.1 ≤ k + r.length ∧ I64 (getF f k u r).1 ∧ ((getF f k u r).2.2 = 0 ∨ getF f k u r = (0, 0, 6) ∨ getF f k u r = (0, 0, 7))
  | 0, _, _, _, _, _ => ⟨by simp [getF], by unfold getF I64; omega, .inr (.inr rfl)⟩
  | _ + 1, _, _, [], _, _ => ⟨by simp [getF], by unfold getF I64; omega, .inr (.inl rfl)⟩
  | f + 1, k, u, c :: r, hk, hu => by
    by_cases h1 : 128 ≤ c.toNat
    · rw [getF_more h1]
      obtain ⟨a, b, d⟩ := getF_spec f (k + 1) _ r (by omega) (group_lt hu)
      exact ⟨by simp only [List.length_cons]; omega, b, d⟩
    · by_cases hb : (c.toNat = 0 ∧ 0 < k) ∨ (k = 9 ∧ 1 < c.toNat)
      · rw [getF_bad h1 hb]; exact ⟨by simp, by unfold I64; omega, .inr (.inr rfl)⟩
      · rw [getF_ok h1 hb]
        refine ⟨by simp only [List.length_cons]; omega, unzig_i64 ?_, .inl rfl⟩
        have hlt := group_lt (c := c.toNat) hu
        rcases Nat.lt_or_ge k 9 with h | h
        · have := pow_le63 (k := k + 1) (by omega)
          omega
        · obtain rfl : k = 9 := by omega
          have : c.toNat ≤ 1 := by omega
          omega
theorem getI_spec (b : List UInt8) : (getI b).2.1 ≤ b.length ∧ I64 (getI b).1 ∧ ((getI b).2.2 = 0 ∨ getI b = (0, 0, 6) ∨ getI b = (0, 0, 7)) := by
  have := getF_spec 10 0 0 b rfl (by simp)
  simpa [getI] using this

def countP (s : Nat) (b : List UInt8) : Int × Nat × Nat :=
  if (getI b).2.2 ≠ 0 then getI b else if (getI b).1 < 0 then ((getI b).1, (getI b).2.1, 7) else if (((b.length - (getI b).2.1) / s : Nat) : Int) < (getI b).1 then ((getI b).1, (getI b).2.1, 6) else getI b
def getB (b : List UInt8) : List UInt8 × Nat × Nat :=
  if (countP 1 b).2.2 ≠ 0 then ([], 0, (countP 1 b).2.2) else ((b.drop (countP 1 b).2.1).take (countP 1 b).1.toNat, (countP 1 b).2.1 + (countP 1 b).1.toNat, 0)

theorem quo_eq {L a s : Nat} (h : a ≤ L) : ((L : Int) - a) / s = (((L - a) / s : Nat) : Int) := by
  rw [Int.natCast_ediv]; congr 1; omega

/-- What a length says, once it is good. -/
theorem countP_spec {s : Nat} {b : List UInt8} (hs : 1 ≤ s) : ((countP s b).2.2 = 0 ∧ 0 ≤ (countP s b).1 ∧ (countP s b).2.1 + (countP s b).1.toNat * s ≤ b.length) ∨ (countP s b).2.2 = 6 ∨ (countP s b).2.2 = 7 := by
  obtain ⟨g1, g2, g3⟩ := getI_spec b
  unfold countP
  by_cases h : (getI b).2.2 ≠ 0
  · rw [if_pos h]
    right
    rcases g3 with g | g | g
    · exact absurd g h
    · rw [g]; exact .inl rfl
    · rw [g]; exact .inr rfl
  · rw [if_neg h]
    split
    · exact .inr (.inr rfl)
    · split
      · exact .inr (.inl rfl)
      · left
        rename_i h1 h2
        refine ⟨by simpa using h, by omega, ?_⟩
        have : (getI b).1.toNat ≤ (b.length - (getI b).2.1) / s := by omega
        have := Nat.mul_le_mul_right s this
        have := Nat.div_mul_le_self (b.length - (getI b).2.1) s
        omega

end Go.Proofs.YtgihhhdeoaplhaaDoor

/- Package wire: lists, decoded. -/
--@opt
namespace Go.Proofs.YtgihhhdeoaplhaaDoor
set_option linter.unusedSimpArgs false
set_option linter.unusedVariables false
open Go.RowKit Go.Sl

/-- So many integers, one behind the other. -/
def getLF : Nat → List UInt8 → Nat → List Int → List Int × Nat × Nat
  | 0, _, at_, out => (out, at_, 0)
  | m + 1, b, at_, out => if (getI (b.drop at_)).2.2 ≠ 0 then ([], 0, (getI (b.drop at_)).2.2) else getLF m b (at_ + (getI (b.drop at_)).2.1) (out ++ [(getI (b.drop at_)).1])
def getL (b : List UInt8) : List Int × Nat × Nat :=
  if (countP 1 b).2.2 ≠ 0 then ([], 0, (countP 1 b).2.2) else getLF (countP 1 b).1.toNat b (countP 1 b).2.1 []
def listPost (S : Snap) (M : List Chunk) (r : List Int × Nat × Nat) (v : Value) (w : World) : Prop :=
  ∃ u, v = .tuple #[u, .int .i64 (r.2.1 : Nat), .int .i64 (r.2.2 : Nat)] ∧ St S (.sl u 3 1 r.1.length (cF intC r.1) :: M) w

end Go.Proofs.YtgihhhdeoaplhaaDoor

/- Package wire: lists of digests, decoded. -/
--@opt
namespace Go.Proofs.YtgihhhdeoaplhaaDoor
set_option linter.unusedSimpArgs false
set_option linter.unusedVariables false
open Go.RowKit Go.Sl

def dgC (d : Dg) : List Value := u8s d.l
def chunks : Nat → List UInt8 → List Dg
  | 0, _ => []
  | m + 1, r => ⟨r.take 16⟩ :: chunks m (r.drop 16)
theorem chunks_snoc : ∀ (i : Nat) (r : List UInt8), chunks (i + 1) r = chunks i r ++ [⟨(r.drop (16 * i)).take 16⟩]
  | 0, r => by simp [chunks]
  | i + 1, r => by
    rw [chunks, chunks_snoc i, chunks]
    simp only [List.cons_append, List.drop_drop]
    rw [show 16 + 16 * i = 16 * (i + 1) by omega]
theorem chunks_len : ∀ (i : Nat) (r : List UInt8), (chunks i r).length = i
  | 0, _ => rfl
  | i + 1, r => by simp [chunks, chunks_len i]
def getDg (b : List UInt8) : List Dg × Nat × Nat :=
  if (countP 16 b).2.2 ≠ 0 then ([], 0, (countP 16 b).2.2) else (chunks (countP 16 b).1.toNat (b.drop (countP 16 b).2.1), (countP 16 b).2.1 + 16 * (countP 16 b).1.toNat, 0)
def digsPost (S : Snap) (M : List Chunk) (r : List Dg × Nat × Nat) (v : Value) (w : World) : Prop :=
  ∃ u, v = .tuple #[u, .int .i64 (r.2.1 : Nat), .int .i64 (r.2.2 : Nat)] ∧ St S (.sl u 23 16 r.1.length (cF dgC r.1) :: M) w

instance eqt51 : EqTy Tryd.prog 23 := ⟨by kernel_rfl, by kernel_rfl, by kernel_rfl⟩
instance key5 : Key Tryd.prog 5 UInt8 1 := key_u8 (by kernel_rfl)
instance key51 : Key Tryd.prog 23 Dg 2 := key_arr inferInstance (by kernel_rfl) (by kernel_rfl) (by decide)

end Go.Proofs.YtgihhhdeoaplhaaDoor

/- Package wire: the references' encoding of byte strings, walked. -/
--@opt
namespace Go.Proofs.YtgihhhdeoaplhaaDoor
set_option linter.unusedSimpArgs false
set_option linter.unusedVariables false
open Go.RowKit Go.Sl

set_option maxRecDepth 8000 in
set_option maxHeartbeats 400000 in
theorem refBytes_c {S M} (w : World) (hst : St S M w) (b : List UInt8) (hm : b.length ≤ 1048576) :
    Rets Tryd.prog 70 [.string ⟨b.toArray⟩] w fun v w' => St S (.sl v 5 1 (encB b).length (u8s (encB b)) :: M) w' := by
  unfold Rets
  have hel := encI_len b.length
  go_enter Tryd.func70, Tryd.ntmps70
  repeat' (first | (((with_reducible refine s_bytes hst evX Tryd.underlying9 inX Tryd.underlying5 (by omega) ?_; clear hst; intro u w hst)) <;> (try refine nX ?_)) | (((with_reducible refine Sl.k_call ?_; ((refine s_call (refInt_c w hst (b.length : Nat) (nat_i64 hm)) inX rfl ?_; clear hst; rintro v w hst)))) <;> (try refine nX ?_) <;> (try replace hst := nH hst)) | ((fail_if_success (go_big_may)); (go_step)) | (((with_reducible refine Sl.k_call ?_; (refine s_qt hst (by exact qt_len_str evX inX) ?_))) <;> (try refine nX ?_)))
  refine s_append (j := 0) hst evX evX SlIn.h rfl inX inX inX (u8s_one _) (by omega) (by omega) (by decide) ?_
  clear hst; intro v' w hst
  (try refine nX ?_)
  (try replace hst := nH hst)
  replace hst := hst.drop
  repeat' (((fail_if_success (go_big_may)); (go_step)))
  go_ret
  refine ⟨_, rfl, ?_⟩
  rw [encB, u8s_append, List.length_append]
  exact hst
end Go.Proofs.YtgihhhdeoaplhaaDoor

/- Package wire: the contracts once more, what is made taken as data. -/
--@opt
namespace Go.Proofs.YtgihhhdeoaplhaaDoor
set_option linter.unusedSimpArgs false
set_option linter.unusedVariables false
open Go.RowKit Go.Sl

theorem RL_cons {α : Type} [Rep α] {S : Snap} {c cs : List Value} {x : α} {xs : List α} (h : Rep.R S c x) (hs : RL S cs xs) : RL S (c ++ cs) (x :: xs) := by
  have hl := Rep.len h
  refine ⟨by rw [List.length_append, hl, hs.1, List.length_cons, Nat.succ_mul]; omega, fun i y hy => ?_⟩
  cases i with
  | zero =>
    obtain rfl : x = y := by simpa using hy
    rw [Nat.zero_mul, List.drop_zero, ← hl, List.take_left]; exact h
  | succ i =>
    have := hs.2 i y (by simpa using hy)
    rw [show (i + 1) * Rep.z α = c.length + i * Rep.z α by rw [hl, Nat.succ_mul]; omega, List.drop_append, List.drop_eq_nil_of_le (by omega), List.nil_append, Nat.add_sub_cancel_left]
    exact this

theorem rl_digs {S : Snap} : ∀ {xs : List Dg}, (∀ d ∈ xs, d.l.length = 16) → RL S (cF dgC xs) xs
  | [], _ => RL.nil
  | d :: xs, h => by
    have := rl_digs (S := S) (xs := xs) fun e he => h e (.tail _ he)
    have hd : Rep.R S (u8s d.l) d := ⟨h d (.head _), rl_u8 d.l⟩
    have e : cF dgC (d :: xs) = u8s d.l ++ cF dgC xs := by simp [cF, dgC]
    rw [e]
    exact RL_cons hd this

theorem chunks_16 : ∀ {n : Nat} {r : List UInt8}, 16 * n ≤ r.length → ∀ d ∈ chunks n r, d.l.length = 16
  | 0, _, _, d, hd => by cases hd
  | n + 1, r, h, d, hd => by
    rcases List.mem_cons.1 hd with rfl | hd
    · simp only [List.length_take]; omega
    · exact chunks_16 (by rw [List.length_drop]; omega) d hd
theorem getDg_16 (b : List UInt8) : ∀ d ∈ (getDg b).1, d.l.length = 16 := by
  have hsp := countP_spec (s := 16) (b := b) (by omega)
  unfold getDg
  split
  · intro d hd; cases hd
  · rename_i h
    have h0 : (countP 16 b).2.2 = 0 := by simpa using h
    rcases hsp with ⟨_, h1, h2⟩ | h1 | h1
    · exact chunks_16 (by rw [List.length_drop]; omega)
    · omega
    · omega
theorem getLF_i64 : ∀ (m : Nat) (b : List UInt8) (a : Nat) (out : List Int), (∀ x ∈ out, I64 x) → ∀ x ∈ (getLF m b a out).1, I64 x
  | 0, _, _, _, h => h
  | m + 1, b, a, out, h => by
    unfold getLF
    split
    · intro x hx; cases hx
    · refine getLF_i64 m b _ _ fun x hx => ?_
      rcases List.mem_append.1 hx with hx | hx
      · exact h x hx
      · obtain rfl := List.mem_singleton.1 hx
        exact (getI_spec _).2.1
theorem getL_i64 (b : List UInt8) : ∀ x ∈ (getL b).1, I64 x := by
  unfold getL
  split
  · intro x hx; cases hx
  · exact getLF_i64 _ _ _ _ fun x hx => by cases hx

abbrev Fz (α : Type) [Rep α] (S : Snap) (M : List Chunk) (xs : List α) (v : Value) (w : World) : Prop := ∃ S', S.Le S' ∧ RSl S' v xs ∧ v.oneCell' = true ∧ St S' M w

theorem fz_u8 {S : Snap} {M : List Chunk} {v : Value} {w : World} {T : TypeId} {b : List UInt8} (h : St S (.sl v T 1 b.length (u8s b) :: M) w) : Fz UInt8 S M b v w := by
  have h1 := sl_one h
  obtain ⟨S', a, c, d⟩ := lit_u8 b h rfl rfl
  exact ⟨S', a, d, h1, c⟩

theorem int_f {S M} (w : World) (hst : St S M w) (n : Int) (hn : I64 n) : Rets Tryd.prog 49 [.int .i64 n] w fun v w' => Fz UInt8 S M (encI n) v w' :=
  Rets.mono (int_c w hst n hn) fun _ _ h => fz_u8 h
theorem bytes_f {S M} (w : World) (hst : St S M w) (b : List UInt8) (hm : b.length ≤ 1048576) : Rets Tryd.prog 78 [.string ⟨b.toArray⟩] w fun v w' => Fz UInt8 S M (encB b) v w' :=
  Rets.mono (bytes_c w hst b hm) fun _ _ h => fz_u8 h
theorem encInts_f {S M} (w : World) (hst : St S M w) (vl : Value) (xs : List Int) (hl : RSl S vl xs) (hm : xs.length ≤ 1048576) : Rets Tryd.prog 44 [vl] w fun v w' => Fz UInt8 S M (encL xs) v w' :=
  Rets.mono (encInts_c w hst vl xs hl hm) fun _ _ h => fz_u8 h
end Go.Proofs.YtgihhhdeoaplhaaDoor
