/- The types of this program; package wire walked; its plain mathematics. -/
import Derived.Test.YtjapdhaimbalkaaDoorRows
import Derived.Deep.LoopGhost
import Derived.WalkMore
import Derived.Test.YtjapdhaimbalkaaDoorBa
import Derived.Test.YtjapdhaimbalkaaDoorBb

/- The types of this program, as the rules ask of them. Written by a program of ours. -/
namespace Go.Proofs.YtjapdhaimbalkaaDoor
set_option linter.unusedSimpArgs false
set_option linter.unusedVariables false
open Go.Sl

instance ty1 : Ty Tryd.prog 1 false 1 [.nilFunc] 8 := ⟨by kernel_rfl, by kernel_rfl, rfl, rfl, rfl, by simp⟩
instance ty2 : Ty Tryd.prog 2 false 1 [.int .i64 0] 8 := ⟨by kernel_rfl, by kernel_rfl, rfl, rfl, rfl, by simp⟩
instance int2 : IntT Tryd.prog 2 .i64 := ⟨by kernel_rfl⟩
instance ty3 : Ty Tryd.prog 3 false 1 [.int .i64 0] 8 := ⟨by kernel_rfl, by kernel_rfl, rfl, rfl, rfl, by simp⟩
instance int3 : IntT Tryd.prog 3 .i64 := ⟨by kernel_rfl⟩
instance ty4 : Ty Tryd.prog 4 false 1 [.bool false] 1 := ⟨by kernel_rfl, by kernel_rfl, rfl, rfl, rfl, by simp⟩
instance bool4 : BoolT Tryd.prog 4 := ⟨by kernel_rfl⟩
instance ty5 : Ty Tryd.prog 5 false 1 [.int .u8 0] 1 := ⟨by kernel_rfl, by kernel_rfl, rfl, rfl, rfl, by simp⟩
instance int5 : IntT Tryd.prog 5 .u8 := ⟨by kernel_rfl⟩
instance ty6 : Ty Tryd.prog 6 false 1 [.int .u8 0] 1 := ⟨by kernel_rfl, by kernel_rfl, rfl, rfl, rfl, by simp⟩
instance int6 : IntT Tryd.prog 6 .u8 := ⟨by kernel_rfl⟩
instance ty7 : Ty Tryd.prog 7 true 4 [.int .i64 0, .int .i64 0, .bool false, .int .u8 0] 24 := ⟨by kernel_rfl, by kernel_rfl, rfl, rfl, rfl, by simp⟩
instance fld7_0 : FldT Tryd.prog 7 0 0 := ⟨by kernel_rfl⟩
instance fld7_1 : FldT Tryd.prog 7 1 1 := ⟨by kernel_rfl⟩
instance fld7_2 : FldT Tryd.prog 7 2 2 := ⟨by kernel_rfl⟩
instance fld7_3 : FldT Tryd.prog 7 3 3 := ⟨by kernel_rfl⟩
instance str7 : StructT Tryd.prog 7 [(0, 1), (1, 1), (2, 1), (3, 1)] := ⟨by kernel_rfl⟩
instance ty8 : Ty Tryd.prog 8 true 4 [.int .i64 0, .int .i64 0, .bool false, .int .u8 0] 24 := ⟨by kernel_rfl, by kernel_rfl, rfl, rfl, rfl, by simp⟩
instance fld8_0 : FldT Tryd.prog 8 0 0 := ⟨by kernel_rfl⟩
instance fld8_1 : FldT Tryd.prog 8 1 1 := ⟨by kernel_rfl⟩
instance fld8_2 : FldT Tryd.prog 8 2 2 := ⟨by kernel_rfl⟩
instance fld8_3 : FldT Tryd.prog 8 3 3 := ⟨by kernel_rfl⟩
instance str8 : StructT Tryd.prog 8 [(0, 1), (1, 1), (2, 1), (3, 1)] := ⟨by kernel_rfl⟩
instance ty9 : Ty Tryd.prog 9 false 1 [.string ByteArray.empty] 16 := ⟨by kernel_rfl, by kernel_rfl, rfl, rfl, rfl, by simp⟩
instance ty10 : Ty Tryd.prog 10 false 1 [.string ByteArray.empty] 16 := ⟨by kernel_rfl, by kernel_rfl, rfl, rfl, rfl, by simp⟩
instance ty11 : Ty Tryd.prog 11 false 1 [.string ByteArray.empty] 16 := ⟨by kernel_rfl, by kernel_rfl, rfl, rfl, rfl, by simp⟩
instance ty12 : Ty Tryd.prog 12 false 1 [.int .u64 0] 8 := ⟨by kernel_rfl, by kernel_rfl, rfl, rfl, rfl, by simp⟩
instance int12 : IntT Tryd.prog 12 .u64 := ⟨by kernel_rfl⟩
instance ty13 : Ty Tryd.prog 13 true 2 [.string ByteArray.empty, .int .u64 0] 24 := ⟨by kernel_rfl, by kernel_rfl, rfl, rfl, rfl, by simp⟩
instance fld13_0 : FldT Tryd.prog 13 0 0 := ⟨by kernel_rfl⟩
instance fld13_1 : FldT Tryd.prog 13 1 1 := ⟨by kernel_rfl⟩
instance str13 : StructT Tryd.prog 13 [(0, 1), (1, 1)] := ⟨by kernel_rfl⟩
instance ty14 : Ty Tryd.prog 14 true 2 [.string ByteArray.empty, .int .u64 0] 24 := ⟨by kernel_rfl, by kernel_rfl, rfl, rfl, rfl, by simp⟩
instance fld14_0 : FldT Tryd.prog 14 0 0 := ⟨by kernel_rfl⟩
instance fld14_1 : FldT Tryd.prog 14 1 1 := ⟨by kernel_rfl⟩
instance str14 : StructT Tryd.prog 14 [(0, 1), (1, 1)] := ⟨by kernel_rfl⟩
instance ty15 : Ty Tryd.prog 15 false 1 [.pointer none] 8 := ⟨by kernel_rfl, by kernel_rfl, rfl, rfl, rfl, by simp⟩
instance ty16 : Ty Tryd.prog 16 false 1 [.pointer none] 8 := ⟨by kernel_rfl, by kernel_rfl, rfl, rfl, rfl, by simp⟩
instance ty17 : Ty Tryd.prog 17 false 1 [.pointer none] 8 := ⟨by kernel_rfl, by kernel_rfl, rfl, rfl, rfl, by simp⟩
instance ty18 : Ty Tryd.prog 18 true 1 [.pointer none] 8 := ⟨by kernel_rfl, by kernel_rfl, rfl, rfl, rfl, by simp⟩
instance fld18_0 : FldT Tryd.prog 18 0 0 := ⟨by kernel_rfl⟩
instance str18 : StructT Tryd.prog 18 [(0, 1)] := ⟨by kernel_rfl⟩
instance ty19 : Ty Tryd.prog 19 true 1 [.pointer none] 8 := ⟨by kernel_rfl, by kernel_rfl, rfl, rfl, rfl, by simp⟩
instance fld19_0 : FldT Tryd.prog 19 0 0 := ⟨by kernel_rfl⟩
instance str19 : StructT Tryd.prog 19 [(0, 1)] := ⟨by kernel_rfl⟩
instance ty20 : Ty Tryd.prog 20 false 1 [.nilIface] 16 := ⟨by kernel_rfl, by kernel_rfl, rfl, rfl, rfl, by simp⟩
instance ty21 : Ty Tryd.prog 21 false 1 [.int .i32 0] 4 := ⟨by kernel_rfl, by kernel_rfl, rfl, rfl, rfl, by simp⟩
instance int21 : IntT Tryd.prog 21 .i32 := ⟨by kernel_rfl⟩
instance ty22 : Ty Tryd.prog 22 false 1 [.slice none 0 0] 24 := ⟨by kernel_rfl, by kernel_rfl, rfl, rfl, rfl, by simp⟩
instance sl22 : SlT Tryd.prog 22 34 := ⟨by kernel_rfl⟩
instance ty23 : Ty Tryd.prog 23 false 1 [.slice none 0 0] 24 := ⟨by kernel_rfl, by kernel_rfl, rfl, rfl, rfl, by simp⟩
instance sl23 : SlT Tryd.prog 23 5 := ⟨by kernel_rfl⟩
instance ty24 : Ty Tryd.prog 24 false 1 [.nilFunc] 8 := ⟨by kernel_rfl, by kernel_rfl, rfl, rfl, rfl, by simp⟩
instance ty25 : Ty Tryd.prog 25 false 1 [.nilFunc] 8 := ⟨by kernel_rfl, by kernel_rfl, rfl, rfl, rfl, by simp⟩
instance ty26 : Ty Tryd.prog 26 true 1 [.slice none 0 0] 24 := ⟨by kernel_rfl, by kernel_rfl, rfl, rfl, rfl, by simp⟩
instance fld26_0 : FldT Tryd.prog 26 0 0 := ⟨by kernel_rfl⟩
instance str26 : StructT Tryd.prog 26 [(0, 1)] := ⟨by kernel_rfl⟩
instance ty27 : Ty Tryd.prog 27 true 1 [.slice none 0 0] 24 := ⟨by kernel_rfl, by kernel_rfl, rfl, rfl, rfl, by simp⟩
instance fld27_0 : FldT Tryd.prog 27 0 0 := ⟨by kernel_rfl⟩
instance str27 : StructT Tryd.prog 27 [(0, 1)] := ⟨by kernel_rfl⟩
instance ty28 : Ty Tryd.prog 28 false 1 [.slice none 0 0] 24 := ⟨by kernel_rfl, by kernel_rfl, rfl, rfl, rfl, by simp⟩
instance sl28 : SlT Tryd.prog 28 32 := ⟨by kernel_rfl⟩
instance ty29 : Ty Tryd.prog 29 true 4 [.int .i64 0, .int .i64 0, .int .i64 0, .slice none 0 0] 48 := ⟨by kernel_rfl, by kernel_rfl, rfl, rfl, rfl, by simp⟩
instance fld29_0 : FldT Tryd.prog 29 0 0 := ⟨by kernel_rfl⟩
instance fld29_1 : FldT Tryd.prog 29 1 1 := ⟨by kernel_rfl⟩
instance fld29_2 : FldT Tryd.prog 29 2 2 := ⟨by kernel_rfl⟩
instance fld29_3 : FldT Tryd.prog 29 3 3 := ⟨by kernel_rfl⟩
instance str29 : StructT Tryd.prog 29 [(0, 1), (1, 1), (2, 1), (3, 1)] := ⟨by kernel_rfl⟩
instance ty30 : Ty Tryd.prog 30 true 4 [.int .i64 0, .int .i64 0, .int .i64 0, .slice none 0 0] 48 := ⟨by kernel_rfl, by kernel_rfl, rfl, rfl, rfl, by simp⟩
instance fld30_0 : FldT Tryd.prog 30 0 0 := ⟨by kernel_rfl⟩
instance fld30_1 : FldT Tryd.prog 30 1 1 := ⟨by kernel_rfl⟩
instance fld30_2 : FldT Tryd.prog 30 2 2 := ⟨by kernel_rfl⟩
instance fld30_3 : FldT Tryd.prog 30 3 3 := ⟨by kernel_rfl⟩
instance str30 : StructT Tryd.prog 30 [(0, 1), (1, 1), (2, 1), (3, 1)] := ⟨by kernel_rfl⟩
instance ty31 : Ty Tryd.prog 31 true 16 [.int .u8 0, .int .u8 0, .int .u8 0, .int .u8 0, .int .u8 0, .int .u8 0, .int .u8 0, .int .u8 0, .int .u8 0, .int .u8 0, .int .u8 0, .int .u8 0, .int .u8 0, .int .u8 0, .int .u8 0, .int .u8 0] 16 := ⟨by kernel_rfl, by kernel_rfl, rfl, rfl, rfl, by simp⟩
instance arr31 : ArrT Tryd.prog 31 16 5 := ⟨by kernel_rfl⟩
instance ty32 : Ty Tryd.prog 32 true 16 [.int .u8 0, .int .u8 0, .int .u8 0, .int .u8 0, .int .u8 0, .int .u8 0, .int .u8 0, .int .u8 0, .int .u8 0, .int .u8 0, .int .u8 0, .int .u8 0, .int .u8 0, .int .u8 0, .int .u8 0, .int .u8 0] 16 := ⟨by kernel_rfl, by kernel_rfl, rfl, rfl, rfl, by simp⟩
instance arr32 : ArrT Tryd.prog 32 16 5 := ⟨by kernel_rfl⟩
instance ty33 : Ty Tryd.prog 33 true 22 [.int .i64 0, .string ByteArray.empty, .int .i64 0, .int .i64 0, .int .i64 0, .slice none 0 0, .int .u8 0, .int .u8 0, .int .u8 0, .int .u8 0, .int .u8 0, .int .u8 0, .int .u8 0, .int .u8 0, .int .u8 0, .int .u8 0, .int .u8 0, .int .u8 0, .int .u8 0, .int .u8 0, .int .u8 0, .int .u8 0] 88 := ⟨by kernel_rfl, by kernel_rfl, rfl, rfl, rfl, by simp⟩
instance fld33_0 : FldT Tryd.prog 33 0 0 := ⟨by kernel_rfl⟩
instance fld33_1 : FldT Tryd.prog 33 1 1 := ⟨by kernel_rfl⟩
instance fld33_2 : FldT Tryd.prog 33 2 2 := ⟨by kernel_rfl⟩
instance fld33_3 : FldT Tryd.prog 33 3 6 := ⟨by kernel_rfl⟩
instance str33 : StructT Tryd.prog 33 [(0, 1), (1, 1), (2, 4), (6, 16)] := ⟨by kernel_rfl⟩
instance ty34 : Ty Tryd.prog 34 true 22 [.int .i64 0, .string ByteArray.empty, .int .i64 0, .int .i64 0, .int .i64 0, .slice none 0 0, .int .u8 0, .int .u8 0, .int .u8 0, .int .u8 0, .int .u8 0, .int .u8 0, .int .u8 0, .int .u8 0, .int .u8 0, .int .u8 0, .int .u8 0, .int .u8 0, .int .u8 0, .int .u8 0, .int .u8 0, .int .u8 0] 88 := ⟨by kernel_rfl, by kernel_rfl, rfl, rfl, rfl, by simp⟩
instance fld34_0 : FldT Tryd.prog 34 0 0 := ⟨by kernel_rfl⟩
instance fld34_1 : FldT Tryd.prog 34 1 1 := ⟨by kernel_rfl⟩
instance fld34_2 : FldT Tryd.prog 34 2 2 := ⟨by kernel_rfl⟩
instance fld34_3 : FldT Tryd.prog 34 3 6 := ⟨by kernel_rfl⟩
instance str34 : StructT Tryd.prog 34 [(0, 1), (1, 1), (2, 4), (6, 16)] := ⟨by kernel_rfl⟩
instance ty35 : Ty Tryd.prog 35 false 1 [.int .i64 0] 8 := ⟨by kernel_rfl, by kernel_rfl, rfl, rfl, rfl, by simp⟩
instance int35 : IntT Tryd.prog 35 .i64 := ⟨by kernel_rfl⟩
instance ty37 : Ty Tryd.prog 37 false 1 [.nilFunc] 8 := ⟨by kernel_rfl, by kernel_rfl, rfl, rfl, rfl, by simp⟩
instance ty38 : Ty Tryd.prog 38 false 1 [.nilFunc] 8 := ⟨by kernel_rfl, by kernel_rfl, rfl, rfl, rfl, by simp⟩
instance ty39 : Ty Tryd.prog 39 false 1 [.nilFunc] 8 := ⟨by kernel_rfl, by kernel_rfl, rfl, rfl, rfl, by simp⟩
instance ty40 : Ty Tryd.prog 40 false 1 [.nilFunc] 8 := ⟨by kernel_rfl, by kernel_rfl, rfl, rfl, rfl, by simp⟩
instance ty41 : Ty Tryd.prog 41 false 1 [.nilFunc] 8 := ⟨by kernel_rfl, by kernel_rfl, rfl, rfl, rfl, by simp⟩
instance ty42 : Ty Tryd.prog 42 false 1 [.nilFunc] 8 := ⟨by kernel_rfl, by kernel_rfl, rfl, rfl, rfl, by simp⟩
instance ty43 : Ty Tryd.prog 43 false 1 [.nilFunc] 8 := ⟨by kernel_rfl, by kernel_rfl, rfl, rfl, rfl, by simp⟩
instance ty44 : Ty Tryd.prog 44 false 1 [.nilFunc] 8 := ⟨by kernel_rfl, by kernel_rfl, rfl, rfl, rfl, by simp⟩
instance ty45 : Ty Tryd.prog 45 false 1 [.nilFunc] 8 := ⟨by kernel_rfl, by kernel_rfl, rfl, rfl, rfl, by simp⟩
instance ty46 : Ty Tryd.prog 46 false 1 [.nilFunc] 8 := ⟨by kernel_rfl, by kernel_rfl, rfl, rfl, rfl, by simp⟩
instance ty47 : Ty Tryd.prog 47 false 1 [.nilFunc] 8 := ⟨by kernel_rfl, by kernel_rfl, rfl, rfl, rfl, by simp⟩
instance ty48 : Ty Tryd.prog 48 false 1 [.nilFunc] 8 := ⟨by kernel_rfl, by kernel_rfl, rfl, rfl, rfl, by simp⟩
instance ty49 : Ty Tryd.prog 49 false 1 [.nilFunc] 8 := ⟨by kernel_rfl, by kernel_rfl, rfl, rfl, rfl, by simp⟩
instance ty50 : Ty Tryd.prog 50 false 1 [.nilFunc] 8 := ⟨by kernel_rfl, by kernel_rfl, rfl, rfl, rfl, by simp⟩
instance ty52 : Ty Tryd.prog 52 false 1 [.nilFunc] 8 := ⟨by kernel_rfl, by kernel_rfl, rfl, rfl, rfl, by simp⟩
instance ty54 : Ty Tryd.prog 54 false 1 [.nilFunc] 8 := ⟨by kernel_rfl, by kernel_rfl, rfl, rfl, rfl, by simp⟩
instance ty55 : Ty Tryd.prog 55 false 1 [.nilFunc] 8 := ⟨by kernel_rfl, by kernel_rfl, rfl, rfl, rfl, by simp⟩
instance ty56 : Ty Tryd.prog 56 false 1 [.nilFunc] 8 := ⟨by kernel_rfl, by kernel_rfl, rfl, rfl, rfl, by simp⟩
instance ty57 : Ty Tryd.prog 57 false 1 [.nilFunc] 8 := ⟨by kernel_rfl, by kernel_rfl, rfl, rfl, rfl, by simp⟩
instance ty58 : Ty Tryd.prog 58 false 1 [.nilFunc] 8 := ⟨by kernel_rfl, by kernel_rfl, rfl, rfl, rfl, by simp⟩
instance ty59 : Ty Tryd.prog 59 false 1 [.nilFunc] 8 := ⟨by kernel_rfl, by kernel_rfl, rfl, rfl, rfl, by simp⟩
instance ty60 : Ty Tryd.prog 60 false 1 [.nilFunc] 8 := ⟨by kernel_rfl, by kernel_rfl, rfl, rfl, rfl, by simp⟩
instance ty61 : Ty Tryd.prog 61 false 1 [.nilFunc] 8 := ⟨by kernel_rfl, by kernel_rfl, rfl, rfl, rfl, by simp⟩
instance ty62 : Ty Tryd.prog 62 false 1 [.nilFunc] 8 := ⟨by kernel_rfl, by kernel_rfl, rfl, rfl, rfl, by simp⟩
instance ty63 : Ty Tryd.prog 63 false 1 [.nilFunc] 8 := ⟨by kernel_rfl, by kernel_rfl, rfl, rfl, rfl, by simp⟩
instance ty64 : Ty Tryd.prog 64 false 1 [.nilFunc] 8 := ⟨by kernel_rfl, by kernel_rfl, rfl, rfl, rfl, by simp⟩
instance ty65 : Ty Tryd.prog 65 false 1 [.nilFunc] 8 := ⟨by kernel_rfl, by kernel_rfl, rfl, rfl, rfl, by simp⟩
instance ty66 : Ty Tryd.prog 66 false 1 [.nilFunc] 8 := ⟨by kernel_rfl, by kernel_rfl, rfl, rfl, rfl, by simp⟩
instance ty67 : Ty Tryd.prog 67 false 1 [.slice none 0 0] 24 := ⟨by kernel_rfl, by kernel_rfl, rfl, rfl, rfl, by simp⟩
instance sl67 : SlT Tryd.prog 67 23 := ⟨by kernel_rfl⟩
instance ty68 : Ty Tryd.prog 68 false 1 [.nilFunc] 8 := ⟨by kernel_rfl, by kernel_rfl, rfl, rfl, rfl, by simp⟩
instance ty69 : Ty Tryd.prog 69 true 32 [.int .u8 0, .int .u8 0, .int .u8 0, .int .u8 0, .int .u8 0, .int .u8 0, .int .u8 0, .int .u8 0, .int .u8 0, .int .u8 0, .int .u8 0, .int .u8 0, .int .u8 0, .int .u8 0, .int .u8 0, .int .u8 0, .int .u8 0, .int .u8 0, .int .u8 0, .int .u8 0, .int .u8 0, .int .u8 0, .int .u8 0, .int .u8 0, .int .u8 0, .int .u8 0, .int .u8 0, .int .u8 0, .int .u8 0, .int .u8 0, .int .u8 0, .int .u8 0] 32 := ⟨by kernel_rfl, by kernel_rfl, rfl, rfl, rfl, by simp⟩
instance arr69 : ArrT Tryd.prog 69 32 5 := ⟨by kernel_rfl⟩
instance ty70 : Ty Tryd.prog 70 false 1 [.nilFunc] 8 := ⟨by kernel_rfl, by kernel_rfl, rfl, rfl, rfl, by simp⟩
instance ty71 : Ty Tryd.prog 71 false 1 [.nilFunc] 8 := ⟨by kernel_rfl, by kernel_rfl, rfl, rfl, rfl, by simp⟩
instance ty72 : Ty Tryd.prog 72 false 1 [.nilFunc] 8 := ⟨by kernel_rfl, by kernel_rfl, rfl, rfl, rfl, by simp⟩
instance ty73 : Ty Tryd.prog 73 false 1 [.nilFunc] 8 := ⟨by kernel_rfl, by kernel_rfl, rfl, rfl, rfl, by simp⟩
instance ty74 : Ty Tryd.prog 74 false 1 [.nilFunc] 8 := ⟨by kernel_rfl, by kernel_rfl, rfl, rfl, rfl, by simp⟩
instance ty75 : Ty Tryd.prog 75 false 1 [.nilFunc] 8 := ⟨by kernel_rfl, by kernel_rfl, rfl, rfl, rfl, by simp⟩
instance ty76 : Ty Tryd.prog 76 false 1 [.nilFunc] 8 := ⟨by kernel_rfl, by kernel_rfl, rfl, rfl, rfl, by simp⟩
instance ty77 : Ty Tryd.prog 77 false 1 [.nilFunc] 8 := ⟨by kernel_rfl, by kernel_rfl, rfl, rfl, rfl, by simp⟩
instance ty78 : Ty Tryd.prog 78 false 1 [.nilFunc] 8 := ⟨by kernel_rfl, by kernel_rfl, rfl, rfl, rfl, by simp⟩
instance ty79 : Ty Tryd.prog 79 false 1 [.nilFunc] 8 := ⟨by kernel_rfl, by kernel_rfl, rfl, rfl, rfl, by simp⟩
instance ty80 : Ty Tryd.prog 80 false 1 [.slice none 0 0] 24 := ⟨by kernel_rfl, by kernel_rfl, rfl, rfl, rfl, by simp⟩
instance sl80 : SlT Tryd.prog 80 22 := ⟨by kernel_rfl⟩
instance ty81 : Ty Tryd.prog 81 false 1 [.slice none 0 0] 24 := ⟨by kernel_rfl, by kernel_rfl, rfl, rfl, rfl, by simp⟩
instance sl81 : SlT Tryd.prog 81 83 := ⟨by kernel_rfl⟩
instance ty82 : Ty Tryd.prog 82 true 23 [.int .i64 0, .string ByteArray.empty, .int .i64 0, .int .i64 0, .int .i64 0, .slice none 0 0, .int .u8 0, .int .u8 0, .int .u8 0, .int .u8 0, .int .u8 0, .int .u8 0, .int .u8 0, .int .u8 0, .int .u8 0, .int .u8 0, .int .u8 0, .int .u8 0, .int .u8 0, .int .u8 0, .int .u8 0, .int .u8 0, .string ByteArray.empty] 104 := ⟨by kernel_rfl, by kernel_rfl, rfl, rfl, rfl, by simp⟩
instance fld82_0 : FldT Tryd.prog 82 0 0 := ⟨by kernel_rfl⟩
instance fld82_1 : FldT Tryd.prog 82 1 22 := ⟨by kernel_rfl⟩
instance str82 : StructT Tryd.prog 82 [(0, 22), (22, 1)] := ⟨by kernel_rfl⟩
instance ty83 : Ty Tryd.prog 83 true 23 [.int .i64 0, .string ByteArray.empty, .int .i64 0, .int .i64 0, .int .i64 0, .slice none 0 0, .int .u8 0, .int .u8 0, .int .u8 0, .int .u8 0, .int .u8 0, .int .u8 0, .int .u8 0, .int .u8 0, .int .u8 0, .int .u8 0, .int .u8 0, .int .u8 0, .int .u8 0, .int .u8 0, .int .u8 0, .int .u8 0, .string ByteArray.empty] 104 := ⟨by kernel_rfl, by kernel_rfl, rfl, rfl, rfl, by simp⟩
instance fld83_0 : FldT Tryd.prog 83 0 0 := ⟨by kernel_rfl⟩
instance fld83_1 : FldT Tryd.prog 83 1 22 := ⟨by kernel_rfl⟩
instance str83 : StructT Tryd.prog 83 [(0, 22), (22, 1)] := ⟨by kernel_rfl⟩
instance ty84 : Ty Tryd.prog 84 false 1 [.nilFunc] 8 := ⟨by kernel_rfl, by kernel_rfl, rfl, rfl, rfl, by simp⟩
instance ty85 : Ty Tryd.prog 85 false 1 [.nilFunc] 8 := ⟨by kernel_rfl, by kernel_rfl, rfl, rfl, rfl, by simp⟩
instance ty86 : Ty Tryd.prog 86 false 1 [.nilFunc] 8 := ⟨by kernel_rfl, by kernel_rfl, rfl, rfl, rfl, by simp⟩
instance ty87 : Ty Tryd.prog 87 false 1 [.nilFunc] 8 := ⟨by kernel_rfl, by kernel_rfl, rfl, rfl, rfl, by simp⟩
instance ty88 : Ty Tryd.prog 88 false 1 [.nilFunc] 8 := ⟨by kernel_rfl, by kernel_rfl, rfl, rfl, rfl, by simp⟩
instance ty89 : Ty Tryd.prog 89 false 1 [.nilFunc] 8 := ⟨by kernel_rfl, by kernel_rfl, rfl, rfl, rfl, by simp⟩
instance ty90 : Ty Tryd.prog 90 false 1 [.nilFunc] 8 := ⟨by kernel_rfl, by kernel_rfl, rfl, rfl, rfl, by simp⟩
instance ty91 : Ty Tryd.prog 91 false 1 [.int .u64 0] 8 := ⟨by kernel_rfl, by kernel_rfl, rfl, rfl, rfl, by simp⟩
instance int91 : IntT Tryd.prog 91 .u64 := ⟨by kernel_rfl⟩
instance ty92 : Ty Tryd.prog 92 false 1 [.int .u64 0] 8 := ⟨by kernel_rfl, by kernel_rfl, rfl, rfl, rfl, by simp⟩
instance int92 : IntT Tryd.prog 92 .u64 := ⟨by kernel_rfl⟩
instance ty93 : Ty Tryd.prog 93 false 1 [.nilFunc] 8 := ⟨by kernel_rfl, by kernel_rfl, rfl, rfl, rfl, by simp⟩
instance ty94 : Ty Tryd.prog 94 false 1 [.nilFunc] 8 := ⟨by kernel_rfl, by kernel_rfl, rfl, rfl, rfl, by simp⟩
instance ty95 : Ty Tryd.prog 95 false 1 [.nilFunc] 8 := ⟨by kernel_rfl, by kernel_rfl, rfl, rfl, rfl, by simp⟩
instance ty96 : Ty Tryd.prog 96 false 1 [.int .u32 0] 4 := ⟨by kernel_rfl, by kernel_rfl, rfl, rfl, rfl, by simp⟩
instance int96 : IntT Tryd.prog 96 .u32 := ⟨by kernel_rfl⟩
instance ty97 : Ty Tryd.prog 97 true 8 [.int .u32 0, .int .u32 0, .int .u32 0, .int .u32 0, .int .u32 0, .int .u32 0, .int .u32 0, .int .u32 0] 32 := ⟨by kernel_rfl, by kernel_rfl, rfl, rfl, rfl, by simp⟩
instance arr97 : ArrT Tryd.prog 97 8 96 := ⟨by kernel_rfl⟩
instance ty98 : Ty Tryd.prog 98 true 8 [.int .u32 0, .int .u32 0, .int .u32 0, .int .u32 0, .int .u32 0, .int .u32 0, .int .u32 0, .int .u32 0] 32 := ⟨by kernel_rfl, by kernel_rfl, rfl, rfl, rfl, by simp⟩
instance arr98 : ArrT Tryd.prog 98 8 96 := ⟨by kernel_rfl⟩
instance ty99 : Ty Tryd.prog 99 false 1 [.nilFunc] 8 := ⟨by kernel_rfl, by kernel_rfl, rfl, rfl, rfl, by simp⟩
instance ty100 : Ty Tryd.prog 100 false 1 [.nilFunc] 8 := ⟨by kernel_rfl, by kernel_rfl, rfl, rfl, rfl, by simp⟩
instance ty101 : Ty Tryd.prog 101 false 1 [.nilFunc] 8 := ⟨by kernel_rfl, by kernel_rfl, rfl, rfl, rfl, by simp⟩
instance ty102 : Ty Tryd.prog 102 false 1 [.nilFunc] 8 := ⟨by kernel_rfl, by kernel_rfl, rfl, rfl, rfl, by simp⟩
instance ty103 : Ty Tryd.prog 103 false 1 [.nilFunc] 8 := ⟨by kernel_rfl, by kernel_rfl, rfl, rfl, rfl, by simp⟩
instance ty104 : Ty Tryd.prog 104 false 1 [.nilFunc] 8 := ⟨by kernel_rfl, by kernel_rfl, rfl, rfl, rfl, by simp⟩
instance ty105 : Ty Tryd.prog 105 false 1 [.nilFunc] 8 := ⟨by kernel_rfl, by kernel_rfl, rfl, rfl, rfl, by simp⟩
instance ty107 : Ty Tryd.prog 107 false 1 [.nilFunc] 8 := ⟨by kernel_rfl, by kernel_rfl, rfl, rfl, rfl, by simp⟩
instance ty108 : Ty Tryd.prog 108 false 1 [.nilFunc] 8 := ⟨by kernel_rfl, by kernel_rfl, rfl, rfl, rfl, by simp⟩
instance ty109 : Ty Tryd.prog 109 false 1 [.nilFunc] 8 := ⟨by kernel_rfl, by kernel_rfl, rfl, rfl, rfl, by simp⟩
instance ty110 : Ty Tryd.prog 110 false 1 [.slice none 0 0] 24 := ⟨by kernel_rfl, by kernel_rfl, rfl, rfl, rfl, by simp⟩
instance sl110 : SlT Tryd.prog 110 96 := ⟨by kernel_rfl⟩
instance ty111 : Ty Tryd.prog 111 false 1 [.nilFunc] 8 := ⟨by kernel_rfl, by kernel_rfl, rfl, rfl, rfl, by simp⟩
instance ty112 : Ty Tryd.prog 112 false 1 [.nilFunc] 8 := ⟨by kernel_rfl, by kernel_rfl, rfl, rfl, rfl, by simp⟩
instance ty113 : Ty Tryd.prog 113 true 64 [.int .u32 0, .int .u32 0, .int .u32 0, .int .u32 0, .int .u32 0, .int .u32 0, .int .u32 0, .int .u32 0, .int .u32 0, .int .u32 0, .int .u32 0, .int .u32 0, .int .u32 0, .int .u32 0, .int .u32 0, .int .u32 0, .int .u32 0, .int .u32 0, .int .u32 0, .int .u32 0, .int .u32 0, .int .u32 0, .int .u32 0, .int .u32 0, .int .u32 0, .int .u32 0, .int .u32 0, .int .u32 0, .int .u32 0, .int .u32 0, .int .u32 0, .int .u32 0, .int .u32 0, .int .u32 0, .int .u32 0, .int .u32 0, .int .u32 0, .int .u32 0, .int .u32 0, .int .u32 0, .int .u32 0, .int .u32 0, .int .u32 0, .int .u32 0, .int .u32 0, .int .u32 0, .int .u32 0, .int .u32 0, .int .u32 0, .int .u32 0, .int .u32 0, .int .u32 0, .int .u32 0, .int .u32 0, .int .u32 0, .int .u32 0, .int .u32 0, .int .u32 0, .int .u32 0, .int .u32 0, .int .u32 0, .int .u32 0, .int .u32 0, .int .u32 0] 256 := ⟨by kernel_rfl, by kernel_rfl, rfl, rfl, rfl, by simp⟩
instance arr113 : ArrT Tryd.prog 113 64 96 := ⟨by kernel_rfl⟩
instance ty114 : Ty Tryd.prog 114 false 1 [.nilFunc] 8 := ⟨by kernel_rfl, by kernel_rfl, rfl, rfl, rfl, by simp⟩
instance ty115 : Ty Tryd.prog 115 false 1 [.nilFunc] 8 := ⟨by kernel_rfl, by kernel_rfl, rfl, rfl, rfl, by simp⟩
instance ty116 : Ty Tryd.prog 116 false 1 [.nilFunc] 8 := ⟨by kernel_rfl, by kernel_rfl, rfl, rfl, rfl, by simp⟩
instance ty117 : Ty Tryd.prog 117 false 1 [.slice none 0 0] 24 := ⟨by kernel_rfl, by kernel_rfl, rfl, rfl, rfl, by simp⟩
instance sl117 : SlT Tryd.prog 117 3 := ⟨by kernel_rfl⟩
instance ty118 : Ty Tryd.prog 118 false 1 [.nilFunc] 8 := ⟨by kernel_rfl, by kernel_rfl, rfl, rfl, rfl, by simp⟩
instance ty119 : Ty Tryd.prog 119 false 1 [.nilFunc] 8 := ⟨by kernel_rfl, by kernel_rfl, rfl, rfl, rfl, by simp⟩
instance ty120 : Ty Tryd.prog 120 false 1 [.nilFunc] 8 := ⟨by kernel_rfl, by kernel_rfl, rfl, rfl, rfl, by simp⟩
instance ty121 : Ty Tryd.prog 121 false 1 [.nilFunc] 8 := ⟨by kernel_rfl, by kernel_rfl, rfl, rfl, rfl, by simp⟩
instance ty122 : Ty Tryd.prog 122 false 1 [.nilFunc] 8 := ⟨by kernel_rfl, by kernel_rfl, rfl, rfl, rfl, by simp⟩
instance ty123 : Ty Tryd.prog 123 true 4 [.pointer none, .pointer none, .pointer none, .string ByteArray.empty] 40 := ⟨by kernel_rfl, by kernel_rfl, rfl, rfl, rfl, by simp⟩
instance fld123_0 : FldT Tryd.prog 123 0 0 := ⟨by kernel_rfl⟩
instance fld123_1 : FldT Tryd.prog 123 1 1 := ⟨by kernel_rfl⟩
instance fld123_2 : FldT Tryd.prog 123 2 2 := ⟨by kernel_rfl⟩
instance fld123_3 : FldT Tryd.prog 123 3 3 := ⟨by kernel_rfl⟩
instance str123 : StructT Tryd.prog 123 [(0, 1), (1, 1), (2, 1), (3, 1)] := ⟨by kernel_rfl⟩
instance ty124 : Ty Tryd.prog 124 true 4 [.pointer none, .pointer none, .pointer none, .string ByteArray.empty] 40 := ⟨by kernel_rfl, by kernel_rfl, rfl, rfl, rfl, by simp⟩
instance fld124_0 : FldT Tryd.prog 124 0 0 := ⟨by kernel_rfl⟩
instance fld124_1 : FldT Tryd.prog 124 1 1 := ⟨by kernel_rfl⟩
instance fld124_2 : FldT Tryd.prog 124 2 2 := ⟨by kernel_rfl⟩
instance fld124_3 : FldT Tryd.prog 124 3 3 := ⟨by kernel_rfl⟩
instance str124 : StructT Tryd.prog 124 [(0, 1), (1, 1), (2, 1), (3, 1)] := ⟨by kernel_rfl⟩
instance ty125 : Ty Tryd.prog 125 true 0 [] 0 := ⟨by kernel_rfl, by kernel_rfl, rfl, rfl, rfl, by simp⟩
instance arr125 : ArrT Tryd.prog 125 0 16 := ⟨by kernel_rfl⟩
instance ty126 : Ty Tryd.prog 126 true 0 [] 0 := ⟨by kernel_rfl, by kernel_rfl, rfl, rfl, rfl, by simp⟩
instance str126 : StructT Tryd.prog 126 [(0, 0)] := ⟨by kernel_rfl⟩
instance ty127 : Ty Tryd.prog 127 true 0 [] 0 := ⟨by kernel_rfl, by kernel_rfl, rfl, rfl, rfl, by simp⟩
instance str127 : StructT Tryd.prog 127 [(0, 0)] := ⟨by kernel_rfl⟩
instance ty128 : Ty Tryd.prog 128 false 1 [.nilFunc] 8 := ⟨by kernel_rfl, by kernel_rfl, rfl, rfl, rfl, by simp⟩
instance ty129 : Ty Tryd.prog 129 false 1 [.int .u8 0] 1 := ⟨by kernel_rfl, by kernel_rfl, rfl, rfl, rfl, by simp⟩
instance int129 : IntT Tryd.prog 129 .u8 := ⟨by kernel_rfl⟩
instance ty130 : Ty Tryd.prog 130 false 1 [.int .u8 0] 1 := ⟨by kernel_rfl, by kernel_rfl, rfl, rfl, rfl, by simp⟩
instance int130 : IntT Tryd.prog 130 .u8 := ⟨by kernel_rfl⟩
instance ty131 : Ty Tryd.prog 131 false 1 [.nilFunc] 8 := ⟨by kernel_rfl, by kernel_rfl, rfl, rfl, rfl, by simp⟩
instance ty132 : Ty Tryd.prog 132 false 1 [.pointer none] 8 := ⟨by kernel_rfl, by kernel_rfl, rfl, rfl, rfl, by simp⟩
instance ty133 : Ty Tryd.prog 133 false 1 [.int .i32 0] 4 := ⟨by kernel_rfl, by kernel_rfl, rfl, rfl, rfl, by simp⟩
instance int133 : IntT Tryd.prog 133 .i32 := ⟨by kernel_rfl⟩
instance ty134 : Ty Tryd.prog 134 false 1 [.int .i32 0] 4 := ⟨by kernel_rfl, by kernel_rfl, rfl, rfl, rfl, by simp⟩
instance int134 : IntT Tryd.prog 134 .i32 := ⟨by kernel_rfl⟩
instance ty135 : Ty Tryd.prog 135 true 11 [.int .u64 0, .int .u64 0, .int .u32 0, .int .u8 0, .int .u8 0, .int .u8 0, .int .u8 0, .nilFunc, .pointer none, .int .i32 0, .int .i32 0] 48 := ⟨by kernel_rfl, by kernel_rfl, rfl, rfl, rfl, by simp⟩
instance fld135_0 : FldT Tryd.prog 135 0 0 := ⟨by kernel_rfl⟩
instance fld135_1 : FldT Tryd.prog 135 1 1 := ⟨by kernel_rfl⟩
instance fld135_2 : FldT Tryd.prog 135 2 2 := ⟨by kernel_rfl⟩
instance fld135_3 : FldT Tryd.prog 135 3 3 := ⟨by kernel_rfl⟩
instance fld135_4 : FldT Tryd.prog 135 4 4 := ⟨by kernel_rfl⟩
instance fld135_5 : FldT Tryd.prog 135 5 5 := ⟨by kernel_rfl⟩
instance fld135_6 : FldT Tryd.prog 135 6 6 := ⟨by kernel_rfl⟩
instance fld135_7 : FldT Tryd.prog 135 7 7 := ⟨by kernel_rfl⟩
instance fld135_8 : FldT Tryd.prog 135 8 8 := ⟨by kernel_rfl⟩
instance fld135_9 : FldT Tryd.prog 135 9 9 := ⟨by kernel_rfl⟩
instance fld135_10 : FldT Tryd.prog 135 10 10 := ⟨by kernel_rfl⟩
instance str135 : StructT Tryd.prog 135 [(0, 1), (1, 1), (2, 1), (3, 1), (4, 1), (5, 1), (6, 1), (7, 1), (8, 1), (9, 1), (10, 1)] := ⟨by kernel_rfl⟩
instance ty136 : Ty Tryd.prog 136 true 11 [.int .u64 0, .int .u64 0, .int .u32 0, .int .u8 0, .int .u8 0, .int .u8 0, .int .u8 0, .nilFunc, .pointer none, .int .i32 0, .int .i32 0] 48 := ⟨by kernel_rfl, by kernel_rfl, rfl, rfl, rfl, by simp⟩
instance fld136_0 : FldT Tryd.prog 136 0 0 := ⟨by kernel_rfl⟩
instance fld136_1 : FldT Tryd.prog 136 1 1 := ⟨by kernel_rfl⟩
instance fld136_2 : FldT Tryd.prog 136 2 2 := ⟨by kernel_rfl⟩
instance fld136_3 : FldT Tryd.prog 136 3 3 := ⟨by kernel_rfl⟩
instance fld136_4 : FldT Tryd.prog 136 4 4 := ⟨by kernel_rfl⟩
instance fld136_5 : FldT Tryd.prog 136 5 5 := ⟨by kernel_rfl⟩
instance fld136_6 : FldT Tryd.prog 136 6 6 := ⟨by kernel_rfl⟩
instance fld136_7 : FldT Tryd.prog 136 7 7 := ⟨by kernel_rfl⟩
instance fld136_8 : FldT Tryd.prog 136 8 8 := ⟨by kernel_rfl⟩
instance fld136_9 : FldT Tryd.prog 136 9 9 := ⟨by kernel_rfl⟩
instance fld136_10 : FldT Tryd.prog 136 10 10 := ⟨by kernel_rfl⟩
instance str136 : StructT Tryd.prog 136 [(0, 1), (1, 1), (2, 1), (3, 1), (4, 1), (5, 1), (6, 1), (7, 1), (8, 1), (9, 1), (10, 1)] := ⟨by kernel_rfl⟩
instance ty137 : Ty Tryd.prog 137 false 1 [.pointer none] 8 := ⟨by kernel_rfl, by kernel_rfl, rfl, rfl, rfl, by simp⟩
instance fn3 : Body Tryd.prog 3 := ⟨by kernel_rfl⟩  -- bootchain/bootchainlaw36.DirectoryOrder
instance fn4 : Body Tryd.prog 4 := ⟨by kernel_rfl⟩  -- bootchain/bootchainlaw36.DirectoryMatches
instance fn5 : Body Tryd.prog 5 := ⟨by kernel_rfl⟩  -- bootchain/bootchainlaw36.DirectoryMerge
instance fn6 : Body Tryd.prog 6 := ⟨by kernel_rfl⟩  -- bootchain/bootchainlaw36.DirectoryGrows
instance fn7 : Body Tryd.prog 7 := ⟨by kernel_rfl⟩  -- bootchain/bootchainlaw36.DirectoryDigest
instance fn8 : Body Tryd.prog 8 := ⟨by kernel_rfl⟩  -- bootchain/bootchainlaw36.DirectoryLookups
instance fn9 : Body Tryd.prog 9 := ⟨by kernel_rfl⟩  -- bootchain/bootchainlaw36.sanity
instance fn10 : Body Tryd.prog 10 := ⟨by kernel_rfl⟩  -- bootchain/bootchainref36.Few
instance fn11 : Body Tryd.prog 11 := ⟨by kernel_rfl⟩  -- bootchain/directory.Add
instance fn12 : Body Tryd.prog 12 := ⟨by kernel_rfl⟩  -- bootchain/bootchainref36.Same
instance fn13 : Body Tryd.prog 13 := ⟨by kernel_rfl⟩  -- bootchain/bootchainlaw36.few
instance fn14 : Body Tryd.prog 14 := ⟨by kernel_rfl⟩  -- bootchain/bootchainref36.Add
instance fn15 : Body Tryd.prog 15 := ⟨by kernel_rfl⟩  -- bootchain/directory.Valid
instance fn16 : Body Tryd.prog 16 := ⟨by kernel_rfl⟩  -- bootchain/bootchainref36.Valid
instance fn17 : Body Tryd.prog 17 := ⟨by kernel_rfl⟩  -- bootchain/directory.Encode
instance fn18 : Body Tryd.prog 18 := ⟨by kernel_rfl⟩  -- bootchain/bootchainref36.Encode
instance fn19 : Body Tryd.prog 19 := ⟨by kernel_rfl⟩  -- bootchain/directory.Merge
instance fn20 : Body Tryd.prog 20 := ⟨by kernel_rfl⟩  -- bootchain/bootchainref36.Merge
instance fn21 : Body Tryd.prog 21 := ⟨by kernel_rfl⟩  -- bootchain/directory.Digest
instance fn22 : Body Tryd.prog 22 := ⟨by kernel_rfl⟩  -- bootchain/bootchainref36.Digest
instance fn23 : Body Tryd.prog 23 := ⟨by kernel_rfl⟩  -- bootchain/bootchainref36.Has
instance fn24 : Body Tryd.prog 24 := ⟨by kernel_rfl⟩  -- bootchain/sha.Digest
instance fn25 : Body Tryd.prog 25 := ⟨by kernel_rfl⟩  -- bootchain/bootchainref03.Differs
instance fn26 : Body Tryd.prog 26 := ⟨by kernel_rfl⟩  -- bootchain/manifest.StageDigest
instance fn27 : Body Tryd.prog 27 := ⟨by kernel_rfl⟩  -- bootchain/manifest.Digest
instance fn28 : Body Tryd.prog 28 := ⟨by kernel_rfl⟩  -- bootchain/directory.Source
instance fn29 : Body Tryd.prog 29 := ⟨by kernel_rfl⟩  -- bootchain/bootchainref36.Source
instance fn30 : Body Tryd.prog 30 := ⟨by kernel_rfl⟩  -- bootchain/directory.Image
instance fn31 : Body Tryd.prog 31 := ⟨by kernel_rfl⟩  -- bootchain/bootchainref36.Image
instance fn32 : Body Tryd.prog 32 := ⟨by kernel_rfl⟩  -- bootchain/bootchainref36.Manifests
instance fn33 : Body Tryd.prog 33 := ⟨by kernel_rfl⟩  -- bootchain/directory.Revoked
instance fn34 : Body Tryd.prog 34 := ⟨by kernel_rfl⟩  -- bootchain/bootchainref36.Revoked
instance fn35 : Body Tryd.prog 35 := ⟨by kernel_rfl⟩  -- bootchain/directory.Bad
instance fn36 : Body Tryd.prog 36 := ⟨by kernel_rfl⟩  -- bootchain/bootchainref36.Bad
instance fn37 : Body Tryd.prog 37 := ⟨by kernel_rfl⟩  -- bootchain/directory.normal
instance fn38 : Body Tryd.prog 38 := ⟨by kernel_rfl⟩  -- bootchain/bootchainref36.Fact
instance fn39 : Body Tryd.prog 39 := ⟨by kernel_rfl⟩  -- bootchain/bootchainref36.insert
instance fn40 : Body Tryd.prog 40 := ⟨by kernel_rfl⟩  -- bootchain/bootchainref36.Normal
instance fn41 : Body Tryd.prog 41 := ⟨by kernel_rfl⟩  -- bootchain/manifest.Valid
instance fn42 : Body Tryd.prog 42 := ⟨by kernel_rfl⟩  -- bootchain/bootchainref36.zero
instance fn43 : Body Tryd.prog 43 := ⟨by kernel_rfl⟩  -- bootchain/bootchainref23.Valid
instance fn44 : Body Tryd.prog 44 := ⟨by kernel_rfl⟩  -- bootchain/wire.Int
instance fn45 : Body Tryd.prog 45 := ⟨by kernel_rfl⟩  -- bootchain/wire.Bytes
instance fn46 : Body Tryd.prog 46 := ⟨by kernel_rfl⟩  -- bootchain/manifest.Encode
instance fn47 : Body Tryd.prog 47 := ⟨by kernel_rfl⟩  -- bootchain/bootchainref01.Int
instance fn48 : Body Tryd.prog 48 := ⟨by kernel_rfl⟩  -- bootchain/bootchainref01.Bytes
instance fn49 : Body Tryd.prog 49 := ⟨by kernel_rfl⟩  -- bootchain/bootchainref23.Encode
instance fn50 : Body Tryd.prog 50 := ⟨by kernel_rfl⟩  -- bootchain/merkle.Root
instance fn51 : Body Tryd.prog 51 := ⟨by kernel_rfl⟩  -- bootchain/bootchainref02.Digest
instance fn52 : Body Tryd.prog 52 := ⟨by kernel_rfl⟩  -- bootchain/bootchainref03.Root
instance fn53 : Body Tryd.prog 53 := ⟨by kernel_rfl⟩  -- bootchain/sha.short
instance fn54 : Body Tryd.prog 54 := ⟨by kernel_rfl⟩  -- bootchain/sha.Sum
instance fn55 : Body Tryd.prog 55 := ⟨by kernel_rfl⟩  -- bootchain/sha.join
instance fn56 : Body Tryd.prog 56 := ⟨by kernel_rfl⟩  -- bootchain/bootchainref03.Leaf
instance fn57 : Body Tryd.prog 57 := ⟨by kernel_rfl⟩  -- bootchain/bootchainref03.Split
instance fn58 : Body Tryd.prog 58 := ⟨by kernel_rfl⟩  -- bootchain/bootchainref03.Node
instance fn59 : Body Tryd.prog 59 := ⟨by kernel_rfl⟩  -- bootchain/manifest.manifest
instance fn60 : Body Tryd.prog 60 := ⟨by kernel_rfl⟩  -- bootchain/directory.find[string]
instance fn61 : Body Tryd.prog 61 := ⟨by kernel_rfl⟩  -- bootchain/directory.Source$1
instance fn62 : Body Tryd.prog 62 := ⟨by kernel_rfl⟩  -- bootchain/directory.Source$2
instance fn63 : Body Tryd.prog 63 := ⟨by kernel_rfl⟩  -- bootchain/bootchainref23.StageDigest
instance fn64 : Body Tryd.prog 64 := ⟨by kernel_rfl⟩  -- bootchain/directory.find[bootchain/api.Manifest]
instance fn65 : Body Tryd.prog 65 := ⟨by kernel_rfl⟩  -- bootchain/directory.Image$1
instance fn66 : Body Tryd.prog 66 := ⟨by kernel_rfl⟩  -- bootchain/directory.Image$2
instance fn67 : Body Tryd.prog 67 := ⟨by kernel_rfl⟩  -- bootchain/bootchainref23.Digest
instance fn68 : Body Tryd.prog 68 := ⟨by kernel_rfl⟩  -- bootchain/bootchainref03.Same
instance fn69 : Body Tryd.prog 69 := ⟨by kernel_rfl⟩  -- bootchain/directory.listed
instance fn70 : Body Tryd.prog 70 := ⟨by kernel_rfl⟩  -- slices.SortStableFunc[[]bootchain/directory.entry,bootchain/directory.entry]
instance fn71 : Body Tryd.prog 71 := ⟨by kernel_rfl⟩  -- (bootchain/directory.entry).compare
instance fn72 : Body Tryd.prog 72 := ⟨by kernel_rfl⟩  -- slices.CompactFunc[[]bootchain/directory.entry,bootchain/directory.entry]
instance fn73 : Body Tryd.prog 73 := ⟨by kernel_rfl⟩  -- (bootchain/directory.entry).same
instance fn74 : Body Tryd.prog 74 := ⟨by kernel_rfl⟩  -- bootchain/manifest.Valid$1
instance fn75 : Body Tryd.prog 75 := ⟨by kernel_rfl⟩  -- bootchain/bootchainref01.zigzag
instance fn76 : Body Tryd.prog 76 := ⟨by kernel_rfl⟩  -- bootchain/bootchainref23.manifest
instance fn77 : Body Tryd.prog 77 := ⟨by kernel_rfl⟩  -- bootchain/merkle.leafDigest
instance fn78 : Body Tryd.prog 78 := ⟨by kernel_rfl⟩  -- bootchain/merkle.split
instance fn79 : Body Tryd.prog 79 := ⟨by kernel_rfl⟩  -- bootchain/merkle.join
instance fn80 : Body Tryd.prog 80 := ⟨by kernel_rfl⟩  -- bootchain/bootchainref02.short
instance fn81 : Body Tryd.prog 81 := ⟨by kernel_rfl⟩  -- bootchain/bootchainref02.Sum
instance fn82 : Body Tryd.prog 82 := ⟨by kernel_rfl⟩  -- slices.Clone[[]byte,byte]
instance fn83 : Body Tryd.prog 83 := ⟨by kernel_rfl⟩  -- bootchain/sha.store
instance fn84 : Body Tryd.prog 84 := ⟨by kernel_rfl⟩  -- (bootchain/sha.state).compress
instance fn85 : Body Tryd.prog 85 := ⟨by kernel_rfl⟩  -- slices.Chunk[[]byte,byte]
instance fn86 : Body Tryd.prog 86 := ⟨by kernel_rfl⟩  -- bootchain/manifest.ints
instance fn87 : Body Tryd.prog 87 := ⟨by kernel_rfl⟩  -- bootchain/wire.Digests
instance fn88 : Body Tryd.prog 88 := ⟨by kernel_rfl⟩  -- bootchain/directory.find[bool]
instance fn89 : Body Tryd.prog 89 := ⟨by kernel_rfl⟩  -- bootchain/directory.listed$1
instance fn90 : Body Tryd.prog 90 := ⟨by kernel_rfl⟩  -- bootchain/directory.listed$2
instance fn91 : Body Tryd.prog 91 := ⟨by kernel_rfl⟩  -- slices.stableCmpFunc[bootchain/directory.entry]
instance fn92 : Body Tryd.prog 92 := ⟨by kernel_rfl⟩  -- strings.Compare
instance fn93 : Body Tryd.prog 93 := ⟨by kernel_rfl⟩  -- bootchain/bootchainref01.Digests
instance fn94 : Body Tryd.prog 94 := ⟨by kernel_rfl⟩  -- bootchain/bootchainref02.words
instance fn95 : Body Tryd.prog 95 := ⟨by kernel_rfl⟩  -- bootchain/bootchainref02.compress
instance fn96 : Body Tryd.prog 96 := ⟨by kernel_rfl⟩  -- bootchain/sha.load
instance fn97 : Body Tryd.prog 97 := ⟨by kernel_rfl⟩  -- bootchain/sha.rotr
instance fn98 : Body Tryd.prog 98 := ⟨by kernel_rfl⟩  -- slices.Chunk[[]byte,byte]$1
instance fn99 : Body Tryd.prog 99 := ⟨by kernel_rfl⟩  -- slices.insertionSortCmpFunc[bootchain/directory.entry]
instance fn100 : Body Tryd.prog 100 := ⟨by kernel_rfl⟩  -- slices.symMergeCmpFunc[bootchain/directory.entry]
instance fn102 : Body Tryd.prog 102 := ⟨by kernel_rfl⟩  -- bootchain/bootchainref02.word
instance fn103 : Body Tryd.prog 103 := ⟨by kernel_rfl⟩  -- bootchain/bootchainref02.rot
instance fn104 : Body Tryd.prog 104 := ⟨by kernel_rfl⟩  -- math/bits.RotateLeft32
instance fn105 : Body Tryd.prog 105 := ⟨by kernel_rfl⟩  -- slices.rotateCmpFunc[bootchain/directory.entry]
instance fn107 : Body Tryd.prog 107 := ⟨by kernel_rfl⟩  -- slices.swapRangeCmpFunc[bootchain/directory.entry]
end Go.Proofs.YtjapdhaimbalkaaDoor

/- Package wire: integers, encoded. -/
--@opt
namespace Go.Proofs.YtjapdhaimbalkaaDoor
set_option linter.unusedSimpArgs false
set_option linter.unusedVariables false
open Go.RowKit Go.Sl

def zig (n : Int) : Nat := if 0 ≤ n then (2 * n).toNat else (-2 * n - 1).toNat
def encF : Nat → Nat → List UInt8
  | 0, _ => []
  | f + 1, u => if u < 128 then [UInt8.ofNat u] else UInt8.ofNat (128 + u % 128) :: encF f (u / 128)
/-- The encoding of an integer. -/
def encI (n : Int) : List UInt8 := encF 10 (zig n)

theorem zig_pos {n : Int} (h : 0 ≤ n) (hn : I64 n) : IntKind.u64.wrap (2 * IntKind.u64.wrap n) = (zig n : Nat) := by
  unfold I64 at hn
  simp only [zig, if_pos h, IntKind.wrap, IntKind.bits, IntKind.signed]
  simp
  omega

set_option maxRecDepth 8000 in
set_option maxHeartbeats 400000 in
theorem zigzag_c {S M} (w : World) (hst : St S M w) (n : Int) (hn : I64 n) :
    Rets Tryd.prog 75 [.int .i64 n] w fun v w' => v = .int .u64 (zig n : Nat) ∧ St S M w' := by
  unfold Rets
  by_cases h : 0 ≤ n
  · go_enter Tryd.func75, Tryd.ntmps75
    repeat' (first | ((fail_if_success (go_big_may)); (go_step)) | (with_reducible refine Sl.gate rfl ?_; (go_step)))
    go_ret
    exact ⟨_, rfl, congrArg _ (zig_pos h hn), hst⟩
  · go_enter Tryd.func75, Tryd.ntmps75
    repeat' (first | ((fail_if_success (go_big_may)); (go_step)) | (with_reducible refine Sl.gate rfl ?_; (go_step)))
    go_ret
    refine ⟨_, rfl, ?_, hst⟩
    congr 1
    have hw : wrap64 (-wrap64 (n + 1)) = -(n + 1) := by unfold I64 at hn; unfold wrap64; omega
    rw [hw]
    unfold I64 at hn
    simp only [zig, if_neg h, IntKind.wrap, IntKind.bits, IntKind.signed]
    simp
    omega

theorem bits_not64 {x : Int} (h0 : 0 ≤ x) (h1 : x < 18446744073709551616) : bits .xor .u64 (if IntKind.u64.signed = true then -1 else IntKind.u64.max) x = 18446744073709551615 - x := by
  have e : BitVec.ofInt 64 18446744073709551615 = BitVec.allOnes 64 := by decide
  show IntKind.u64.wrap ((BitVec.ofInt 64 18446744073709551615 ^^^ BitVec.ofInt 64 x).toNat : Int) = _
  rw [e, BitVec.allOnes_xor, BitVec.toNat_not, BitVec.toNat_ofInt]
  simp only [IntKind.wrap, IntKind.bits, IntKind.signed]
  simp
  omega

theorem zig_pos' {n : Int} (h : 0 ≤ n) (hn : I64 n) : IntKind.u64.wrap (IntKind.u64.wrap n * 2) = (zig n : Nat) := by
  rw [Int.mul_comm]; exact zig_pos h hn

theorem zig_neg {n : Int} (h : n < 0) (hn : I64 n) : bits .xor .u64 (if IntKind.u64.signed = true then -1 else IntKind.u64.max) (IntKind.u64.wrap (IntKind.u64.wrap n * 2)) = (zig n : Nat) := by
  have hx : IntKind.u64.wrap (IntKind.u64.wrap n * 2) = 2 * n + 18446744073709551616 := by
    unfold I64 at hn
    simp only [IntKind.wrap, IntKind.bits, IntKind.signed]
    simp
    omega
  unfold I64 at hn
  rw [hx, bits_not64 (by omega) (by omega), zig, if_neg (by omega)]
  omega

theorem zig_lt {n : Int} (hn : I64 n) : zig n < 18446744073709551616 := by
  unfold I64 at hn
  unfold zig
  split <;> omega

theorem pow10 : 18446744073709551616 < 128 ^ 10 := by simp

theorem or128 : ∀ x < 256, bits .or .u8 ((x : Nat) : Int) 128 = ((128 + x % 128 : Nat) : Int) := by decide +kernel

theorem u8_small {x : Nat} (h : x < 128) : ((UInt8.ofNat x).toNat : Int) = x := by
  rw [UInt8.toNat_ofNat']; omega
theorem or_byte (x : Nat) : bits .or .u8 ((x : Int) % 256) 128 = ((UInt8.ofNat (128 + x % 128)).toNat : Int) := by
  have h := or128 (x % 256) (Nat.mod_lt _ (by decide))
  rw [UInt8.toNat_ofNat']
  rw [show ((x : Int) % 256) = ((x % 256 : Nat) : Int) from by omega, h]
  omega

theorem encF_one {f u : Nat} (h : u < 128) : encF (f + 1) u = [UInt8.ofNat u] := by rw [encF, if_pos h]
theorem encF_more {f u : Nat} (h : ¬ u < 128) : encF (f + 1) u = UInt8.ofNat (128 + u % 128) :: encF f (u / 128) := by rw [encF, if_neg h]

set_option maxRecDepth 8000 in
set_option maxHeartbeats 400000 in
theorem int_c {S M} (w : World) (hst : St S M w) (n : Int) (hn : I64 n) :
    Rets Tryd.prog 44 [.int .i64 n] w fun v w' => St S (.sl v 5 1 (encI n).length (u8s (encI n)) :: M) w' := by
  unfold Rets

  by_cases h : 0 ≤ n
  · have hz' := Lib.hid (zig_pos' h hn)
    go_enter Tryd.func44, Tryd.ntmps44
    repeat' (((fail_if_success (go_big_may)); (go_step)))
    go_step3
    repeat' (first | ((fail_if_success (go_big_may)); (go_step)) | (with_reducible refine Sl.gate rfl ?_; (go_step)))
    go_step3
    repeat' (((fail_if_success (go_big_may)); (go_step)))
    go_loopg [3, 4] 10 (fun k v u wr => ∃ (x : Nat) (xs : List UInt8), v = .int .u64 x ∧ 1 ≤ k ∧ Hid (x < 128 ^ k ∧ xs ++ encF k x = encI n ∧ xs.length + k = 10) ∧ St S (.sl u 5 1 xs.length (u8s xs) :: M) wr)
    case atStart => exact ⟨zig n, [], congrArg _ hz'.out, by omega, ⟨Nat.lt_trans (zig_lt hn) pow10, by simp [encI], by simp⟩, hst.nil 5 1⟩
    case round =>
      clear hst
      obtain ⟨x, xs, rfl, hk, hx, hst⟩ := hrel
      have hu := sl_one hst
      have hxl : xs.length ≤ 10 := by have := hx.out.2.2; omega
      by_cases hlt : x < 128
      · repeat' (first | ((fail_if_success (go_big_may)); (go_step)) | (with_reducible refine Sl.gate rfl ?_; (go_step)))
        refine s_lit (vs := [.int .u8 (x : Int)]) hst inX inX rfl rfl (by simp [Value.cells]) rfl (by omega) (by omega) ?_
        clear hst; intro u w hst
        refine nX ?_
        repeat' (fail)
        refine s_append (j := 0) hst evX evX SlIn.h rfl inX inX inX (by simp [Value.cells, Value.oneCell']) (by omega) (by omega) (by decide) ?_
        clear hst; intro v' w hst
        refine nX ?_
        (try replace hst := nH hst)
        replace hst := hst.drop
        repeat' (((fail_if_success (go_big_may)); (go_step)))
        rw [Exit.noGoto_ret]
        go_ret
        refine ⟨_, rfl, ?_⟩
        obtain ⟨_, hx2, _⟩ := hx.out
        obtain ⟨k', rfl⟩ : ∃ k', gk = k' + 1 := ⟨gk - 1, by omega⟩
        rw [encF_one hlt] at hx2
        rw [← hx2, u8s_snoc, List.length_append, u8_small hlt]
        exact hst
      · repeat' (first | ((fail_if_success (go_big_may)); (go_step)) | (with_reducible refine Sl.gate rfl ?_; (go_step)))
        refine s_lit (vs := [.int .u8 (bits .or .u8 ((x : Int) % 256) 128)]) hst inX inX rfl rfl (by simp [Value.cells]) rfl (by omega) (by omega) ?_
        clear hst; intro u w hst
        refine nX ?_
        repeat' (fail)
        refine s_append (j := 0) hst evX evX SlIn.h rfl inX inX inX (by simp [Value.cells, Value.oneCell']) (by omega) (by omega) (by decide) ?_
        clear hst; intro v' w hst
        refine nX ?_
        (try replace hst := nH hst)
        replace hst := hst.drop
        repeat' (first | ((fail_if_success (go_big_may)); (go_step)) | (with_reducible refine Sl.gate rfl ?_; (go_step)))
        obtain ⟨hx1, hx2, hx3⟩ := hx.out
        obtain ⟨k', rfl⟩ : ∃ k', gk = k' + 1 := ⟨gk - 1, by omega⟩
        rw [encF_more hlt] at hx2
        go_roundg k'
        case measure => omega
        case rel =>
          refine ⟨x / 128, xs ++ [UInt8.ofNat (128 + x % 128)], by rw [Int.natCast_ediv]; rfl, ?_, ⟨Nat.div_lt_of_lt_mul (by rw [← Nat.pow_succ']; exact hx1), by rw [← hx2]; simp, by simp; omega⟩, ?_⟩
          · rcases Nat.eq_zero_or_pos k' with e | e
            · subst e; simp at hx1; omega
            · exact e
          · rw [u8s_snoc, List.length_append, ← or_byte]
            exact hst
  · have hz' := Lib.hid (zig_neg (by omega) hn)
    go_enter Tryd.func44, Tryd.ntmps44
    repeat' (((fail_if_success (go_big_may)); (go_step)))
    go_step3
    repeat' (first | ((fail_if_success (go_big_may)); (go_step)) | (with_reducible refine Sl.gate rfl ?_; (go_step)))
    go_step3
    repeat' (((fail_if_success (go_big_may)); (go_step)))
    go_loopg [3, 4] 10 (fun k v u wr => ∃ (x : Nat) (xs : List UInt8), v = .int .u64 x ∧ 1 ≤ k ∧ Hid (x < 128 ^ k ∧ xs ++ encF k x = encI n ∧ xs.length + k = 10) ∧ St S (.sl u 5 1 xs.length (u8s xs) :: M) wr)
    case atStart => exact ⟨zig n, [], congrArg _ hz'.out, by omega, ⟨Nat.lt_trans (zig_lt hn) pow10, by simp [encI], by simp⟩, hst.nil 5 1⟩
    case round =>
      clear hst
      obtain ⟨x, xs, rfl, hk, hx, hst⟩ := hrel
      have hu := sl_one hst
      have hxl : xs.length ≤ 10 := by have := hx.out.2.2; omega
      by_cases hlt : x < 128
      · repeat' (first | ((fail_if_success (go_big_may)); (go_step)) | (with_reducible refine Sl.gate rfl ?_; (go_step)))
        refine s_lit (vs := [.int .u8 (x : Int)]) hst inX inX rfl rfl (by simp [Value.cells]) rfl (by omega) (by omega) ?_
        clear hst; intro u w hst
        refine nX ?_
        repeat' (fail)
        refine s_append (j := 0) hst evX evX SlIn.h rfl inX inX inX (by simp [Value.cells, Value.oneCell']) (by omega) (by omega) (by decide) ?_
        clear hst; intro v' w hst
        refine nX ?_
        (try replace hst := nH hst)
        replace hst := hst.drop
        repeat' (((fail_if_success (go_big_may)); (go_step)))
        rw [Exit.noGoto_ret]
        go_ret
        refine ⟨_, rfl, ?_⟩
        obtain ⟨_, hx2, _⟩ := hx.out
        obtain ⟨k', rfl⟩ : ∃ k', gk = k' + 1 := ⟨gk - 1, by omega⟩
        rw [encF_one hlt] at hx2
        rw [← hx2, u8s_snoc, List.length_append, u8_small hlt]
        exact hst
      · repeat' (first | ((fail_if_success (go_big_may)); (go_step)) | (with_reducible refine Sl.gate rfl ?_; (go_step)))
        refine s_lit (vs := [.int .u8 (bits .or .u8 ((x : Int) % 256) 128)]) hst inX inX rfl rfl (by simp [Value.cells]) rfl (by omega) (by omega) ?_
        clear hst; intro u w hst
        refine nX ?_
        repeat' (fail)
        refine s_append (j := 0) hst evX evX SlIn.h rfl inX inX inX (by simp [Value.cells, Value.oneCell']) (by omega) (by omega) (by decide) ?_
        clear hst; intro v' w hst
        refine nX ?_
        (try replace hst := nH hst)
        replace hst := hst.drop
        repeat' (first | ((fail_if_success (go_big_may)); (go_step)) | (with_reducible refine Sl.gate rfl ?_; (go_step)))
        obtain ⟨hx1, hx2, hx3⟩ := hx.out
        obtain ⟨k', rfl⟩ : ∃ k', gk = k' + 1 := ⟨gk - 1, by omega⟩
        rw [encF_more hlt] at hx2
        go_roundg k'
        case measure => omega
        case rel =>
          refine ⟨x / 128, xs ++ [UInt8.ofNat (128 + x % 128)], by rw [Int.natCast_ediv]; rfl, ?_, ⟨Nat.div_lt_of_lt_mul (by rw [← Nat.pow_succ']; exact hx1), by rw [← hx2]; simp, by simp; omega⟩, ?_⟩
          · rcases Nat.eq_zero_or_pos k' with e | e
            · subst e; simp at hx1; omega
            · exact e
          · rw [u8s_snoc, List.length_append, ← or_byte]
            exact hst
end Go.Proofs.YtjapdhaimbalkaaDoor

/- Package wire: the references' comparisons and their encoding of integers. -/
--@opt
namespace Go.Proofs.YtjapdhaimbalkaaDoor
set_option linter.unusedSimpArgs false
set_option linter.unusedVariables false
open Go.RowKit Go.Sl

theorem wrap_u64 {n : Nat} (h : n < 18446744073709551616) : IntKind.u64.wrap (n : Int) = n := by
  simp only [IntKind.wrap, IntKind.bits, IntKind.signed]
  simp
  omega
theorem wrap_div {x : Nat} (h : x < 18446744073709551616) : IntKind.u64.wrap ((x : Int) / 128) = ((x / 128 : Nat) : Int) := by
  rw [show ((x : Int) / 128) = ((x / 128 : Nat) : Int) from by omega]
  exact wrap_u64 (by omega)

set_option maxRecDepth 8000 in
set_option maxHeartbeats 400000 in
theorem refInt_c {S M} (w : World) (hst : St S M w) (n : Int) (hn : I64 n) :
    Rets Tryd.prog 47 [.int .i64 n] w fun v w' => St S (.sl v 5 1 (encI n).length (u8s (encI n)) :: M) w' := by
  unfold Rets
  go_enter Tryd.func47, Tryd.ntmps47
  repeat' (first | (((with_reducible refine Sl.k_call ?_; ((refine s_call (zigzag_c w hst n hn) inX rfl ?_; clear hst; rintro v w ⟨rfl, hst⟩)))) <;> (try refine nX ?_) <;> (try replace hst := nH hst)) | ((fail_if_success (go_big_may)); (go_step)))
  go_loopg [3, 4] 10 (fun k v u wr => ∃ (x : Nat) (xs : List UInt8), v = .int .u64 x ∧ 1 ≤ k ∧ Hid (x < 128 ^ k ∧ xs ++ encF k x = encI n ∧ xs.length + k = 10 ∧ x < 18446744073709551616) ∧ St S (.sl u 5 1 xs.length (u8s xs) :: M) wr)
  case atStart => exact ⟨zig n, [], rfl, by omega, ⟨Nat.lt_trans (zig_lt hn) pow10, by simp [encI], by simp, zig_lt hn⟩, hst.nil 5 1⟩
  case round =>
    clear hst
    obtain ⟨x, xs, rfl, hk, hx, hst⟩ := hrel
    have hu := sl_one hst
    have hxl : xs.length ≤ 10 := by have := hx.out.2.2.1; omega
    by_cases hlt : x < 128
    · repeat' (first | ((fail_if_success (go_big_may)); (go_step)) | (with_reducible refine Sl.gate rfl ?_; (go_step)))
      refine s_lit (vs := [.int .u8 (x : Int)]) hst inX inX rfl rfl (by simp [Value.cells]) rfl (by omega) (by omega) ?_
      clear hst; intro u w hst
      refine nX ?_
      repeat' (fail)
      refine s_append (j := 0) hst evX evX SlIn.h rfl inX inX inX (by simp [Value.cells, Value.oneCell']) (by omega) (by omega) (by decide) ?_
      clear hst; intro v' w hst
      refine nX ?_
      (try replace hst := nH hst)
      replace hst := hst.drop
      repeat' (((fail_if_success (go_big_may)); (go_step)))
      go_ret
      refine ⟨_, rfl, ?_⟩
      obtain ⟨_, hx2, _⟩ := hx.out
      obtain ⟨k', rfl⟩ : ∃ k', gk = k' + 1 := ⟨gk - 1, by omega⟩
      rw [encF_one hlt] at hx2
      rw [← hx2, u8s_snoc, List.length_append, u8_small hlt]
      exact hst
    · repeat' (first | ((fail_if_success (go_big_may)); (go_step)) | (with_reducible refine Sl.gate rfl ?_; (go_step)))
      refine s_lit (vs := [.int .u8 (128 + (x : Int) % 128)]) hst inX inX rfl rfl (by simp [Value.cells]) rfl (by omega) (by omega) ?_
      clear hst; intro u w hst
      refine nX ?_
      repeat' (fail)
      refine s_append (j := 0) hst evX evX SlIn.h rfl inX inX inX (by simp [Value.cells, Value.oneCell']) (by omega) (by omega) (by decide) ?_
      clear hst; intro v' w hst
      refine nX ?_
      (try replace hst := nH hst)
      replace hst := hst.drop
      repeat' (first | ((fail_if_success (go_big_may)); (go_step)) | (with_reducible refine Sl.gate rfl ?_; (go_step)))
      obtain ⟨hx1, hx2, hx3, hx4⟩ := hx.out
      obtain ⟨k', rfl⟩ : ∃ k', gk = k' + 1 := ⟨gk - 1, by omega⟩
      rw [encF_more hlt] at hx2
      go_roundg k'
      case measure => omega
      case rel =>
        refine ⟨x / 128, xs ++ [UInt8.ofNat (128 + x % 128)], congrArg _ (wrap_div hx4), ?_, ⟨Nat.div_lt_of_lt_mul (by rw [← Nat.pow_succ']; exact hx1), by rw [← hx2]; simp, by simp; omega, Nat.lt_of_le_of_lt (Nat.div_le_self _ _) hx4⟩, ?_⟩
        · rcases Nat.eq_zero_or_pos k' with e | e
          · subst e; simp at hx1; omega
          · exact e
        · rw [u8s_snoc, List.length_append, show ((UInt8.ofNat (128 + x % 128)).toNat : Int) = 128 + (x : Int) % 128 from by rw [UInt8.toNat_ofNat']; omega]
          exact hst
end Go.Proofs.YtjapdhaimbalkaaDoor

/- Package wire: decoding an integer. -/
--@opt
namespace Go.Proofs.YtjapdhaimbalkaaDoor
set_option linter.unusedSimpArgs false
set_option linter.unusedVariables false
open Go.RowKit Go.Sl

/-- The integer of a number. -/
def unzig (u : Nat) : Int := if u % 2 = 1 then -((u / 2 : Nat) : Int) - 1 else ((u / 2 : Nat) : Int)
/-- Decoding: so many bytes may yet come, this is the next one's place, so much has been read. -/
def getF : Nat → Nat → Nat → List UInt8 → Int × Nat × Nat
  | 0, _, _, _ => (0, 0, 7)
  | _ + 1, _, _, [] => (0, 0, 6)
  | f + 1, k, u, c :: r =>
    if 128 ≤ c.toNat then getF f (k + 1) (u + c.toNat % 128 * 2 ^ (7 * k)) r
    else if (c.toNat = 0 ∧ 0 < k) ∨ (k = 9 ∧ 1 < c.toNat) then (0, 0, 7) else (unzig (u + c.toNat % 128 * 2 ^ (7 * k)), k + 1, 0)
def getI (b : List UInt8) : Int × Nat × Nat := getF 10 0 0 b
def triple (r : Int × Nat × Nat) : Value := .tuple #[.int .i64 r.1, .int .i64 (r.2.1 : Nat), .int .i64 (r.2.2 : Nat)]

theorem and127 : ∀ x < 256, bits .and .u8 ((x : Nat) : Int) 127 = ((x % 128 : Nat) : Int) := by decide +kernel
theorem wrap_nat (n : Nat) : IntKind.u64.wrap (n : Int) = ((n % 2 ^ 64 : Nat) : Int) := by
  simp only [IntKind.wrap, IntKind.bits, IntKind.signed]
  simp
theorem bits_or_nat (a b : Nat) : bits .or .u64 (a : Int) (b : Int) = (((a ||| b) % 2 ^ 64 : Nat) : Int) := by
  show IntKind.u64.wrap (((BitVec.ofInt 64 (a : Int) ||| BitVec.ofInt 64 (b : Int)).toNat : Nat) : Int) = _
  rw [BitVec.ofInt_natCast, BitVec.ofInt_natCast, BitVec.toNat_or, BitVec.toNat_ofNat, BitVec.toNat_ofNat, wrap_nat, ← Nat.or_mod_two_pow]
  simp
theorem or_add {u c i : Nat} (h : u < 2 ^ i) : u ||| c * 2 ^ i = u + c * 2 ^ i := by
  rw [← Nat.shiftLeft_eq, Nat.or_comm, ← Nat.shiftLeft_add_eq_or_of_lt h, Nat.add_comm]

/-- One more group of seven bits. -/
theorem or_step (c : UInt8) {x : Int} {u k : Nat} (hx : x = u) (hu : u < 2 ^ (7 * k)) :
    bits .or .u64 x (IntKind.u64.wrap (IntKind.u64.wrap (bits .and .u8 (c.toNat : Int) 127) * 2 ^ (7 * k))) = (((u + c.toNat % 128 * 2 ^ (7 * k)) % 2 ^ 64 : Nat) : Int) := by
  subst hx
  rw [and127 _ c.toNat_lt, wrap_u64 (by omega), show (((c.toNat % 128 : Nat) : Int) * 2 ^ (7 * k)) = ((c.toNat % 128 * 2 ^ (7 * k) : Nat) : Int) from by push_cast; rfl, wrap_nat, bits_or_nat,
    Nat.or_mod_two_pow, Nat.mod_mod, ← Nat.or_mod_two_pow, or_add hu]
theorem group_lt {c u k : Nat} (hu : u < 2 ^ (7 * k)) : u + c % 128 * 2 ^ (7 * k) < 2 ^ (7 * (k + 1)) := by
  have h := Nat.mul_le_mul_right (2 ^ (7 * k)) (show c % 128 ≤ 127 by omega)
  rw [Nat.mul_succ, Nat.pow_add, Nat.mul_comm (2 ^ (7 * k))]
  generalize c % 128 * 2 ^ (7 * k) = m at *
  omega
theorem getF_more {f k u : Nat} {c : UInt8} {r : List UInt8} (h : 128 ≤ c.toNat) : getF (f + 1) k u (c :: r) = getF f (k + 1) (u + c.toNat % 128 * 2 ^ (7 * k)) r := by rw [getF, if_pos h]
theorem getF_bad {f k u : Nat} {c : UInt8} {r : List UInt8} (h : ¬ 128 ≤ c.toNat) (hb : (c.toNat = 0 ∧ 0 < k) ∨ (k = 9 ∧ 1 < c.toNat)) : getF (f + 1) k u (c :: r) = (0, 0, 7) := by rw [getF, if_neg h, if_pos hb]
theorem getF_ok {f k u : Nat} {c : UInt8} {r : List UInt8} (h : ¬ 128 ≤ c.toNat) (hb : ¬ ((c.toNat = 0 ∧ 0 < k) ∨ (k = 9 ∧ 1 < c.toNat))) : getF (f + 1) k u (c :: r) = (unzig (u + c.toNat % 128 * 2 ^ (7 * k)), k + 1, 0) := by rw [getF, if_neg h, if_neg hb]
theorem pow_le63 {k : Nat} (h : k ≤ 9) : 2 ^ (7 * k) ≤ 2 ^ 63 := Nat.pow_le_pow_right (by omega) (by omega)

theorem and_one (u : Nat) : bits .and .u64 (u : Int) 1 = ((u % 2 : Nat) : Int) := by
  show IntKind.u64.wrap (((BitVec.ofInt 64 (u : Int) &&& BitVec.ofInt 64 ((1 : Nat) : Int)).toNat : Nat) : Int) = _
  rw [BitVec.ofInt_natCast, BitVec.ofInt_natCast, BitVec.toNat_and, BitVec.toNat_ofNat, BitVec.toNat_ofNat, wrap_nat, Nat.mod_eq_of_lt (a := 1) (by decide), Nat.and_one_is_mod]
  omega
theorem xor_neg {n : Nat} (h : n < 2 ^ 63) : bits .xor .i64 (if IntKind.i64.signed = true then -1 else 9223372036854775807) ((n : Nat) : Int) = -((n : Nat) : Int) - 1 := by
  have e : BitVec.ofInt 64 (-1) = BitVec.allOnes 64 := by decide
  show IntKind.i64.wrap (((BitVec.ofInt 64 (-1) ^^^ BitVec.ofInt 64 (n : Int)).toNat : Nat) : Int) = _
  rw [e, BitVec.allOnes_xor, BitVec.toNat_not, BitVec.ofInt_natCast, BitVec.toNat_ofNat, Nat.mod_eq_of_lt (by omega)]
  simp only [IntKind.wrap, IntKind.bits, IntKind.signed]
  simp
  omega
theorem unzig_even {u : Nat} (h : u % 2 = 0) : unzig u = ((u / 2 : Nat) : Int) := by unfold unzig; rw [if_neg (by omega)]
theorem unzig_odd {u : Nat} (h : u % 2 = 1) : unzig u = -((u / 2 : Nat) : Int) - 1 := by unfold unzig; rw [if_pos h]
theorem wrap_half {u : Nat} (h : u < 2 ^ 64) : wrap64 ((u : Int) / 2) = ((u / 2 : Nat) : Int) := by
  unfold wrap64; omega

end Go.Proofs.YtjapdhaimbalkaaDoor

/- Package wire: byte strings and lists, encoded. -/
--@opt
namespace Go.Proofs.YtjapdhaimbalkaaDoor
set_option linter.unusedSimpArgs false
set_option linter.unusedVariables false
open Go.RowKit Go.Sl

abbrev Dg := Arr UInt8 16
def encB (b : List UInt8) : List UInt8 := encI b.length ++ b
def encL (l : List Int) : List UInt8 := encI l.length ++ l.flatMap encI
def encD (d : List Dg) : List UInt8 := encI d.length ++ d.flatMap (·.l)

theorem encF_len : ∀ f u, (encF f u).length ≤ f
  | 0, _ => by simp [encF]
  | f + 1, u => by
    have := encF_len f (u / 128)
    unfold encF
    split <;> simp <;> omega
theorem encI_len (n : Int) : (encI n).length ≤ 10 := encF_len 10 _
theorem nat_i64 {n : Nat} (h : n ≤ 1048576) : I64 (n : Int) := by unfold I64; omega

theorem flat_len (l : List Int) : (l.flatMap encI).length ≤ 10 * l.length := by
  induction l with
  | nil => simp
  | cons x l ih => have := encI_len x; simp only [List.flatMap_cons, List.length_append, List.length_cons]; omega
theorem dg_cells {S : Snap} {cl : List Value} {d : Dg} (h : Rep.R S cl d) : d.l.length = 16 ∧ cl = u8s d.l := ⟨h.1, h.2.eq_u8s⟩
theorem _root_.Go.Sl.RSl.dgs {S : Snap} {v : Value} {xs : List Dg} (h : RSl S v xs) : ∀ d ∈ xs, d.l.length = 16 := by
  intro x hx
  obtain ⟨i, hi, rfl⟩ := List.mem_iff_getElem.1 hx
  rcases h with ⟨ad, cap, _, h, _⟩ | ⟨b, o, cap, c, T, fz, _, _, _, _, h⟩
  · subst h; simp at hi
  · exact (h.at_ i hi).1
theorem dgs_len {xs : List Dg} (h : ∀ d ∈ xs, d.l.length = 16) (i : Nat) : ((xs.take i).flatMap (·.l)).length ≤ 16 * xs.length := by
  have h' : ∀ d ∈ xs.take i, d.l.length = 16 := fun d hd => h d (List.mem_of_mem_take hd)
  have hl : (xs.take i).length ≤ xs.length := by rw [List.length_take]; omega
  have : ((xs.take i).flatMap (·.l)).length = 16 * (xs.take i).length := by
    clear hl
    generalize xs.take i = ys at *
    induction ys with
    | nil => rfl
    | cons y ys ih =>
      have := ih fun d hd => h' d (.tail _ hd)
      have := h' y (.head _)
      simp only [List.flatMap_cons, List.length_append, List.length_cons]; omega
  omega
instance strT9 : StrT Tryd.prog 9 := ⟨by kernel_rfl⟩

set_option maxRecDepth 8000 in
set_option maxHeartbeats 400000 in
theorem bytes_c {S M} (w : World) (hst : St S M w) (b : List UInt8) (hm : b.length ≤ 1048576) :
    Rets Tryd.prog 45 [.string ⟨b.toArray⟩] w fun v w' => St S (.sl v 5 1 (encB b).length (u8s (encB b)) :: M) w' := by
  unfold Rets
  go_enter Tryd.func45, Tryd.ntmps45
  repeat' (first | (((with_reducible refine Sl.k_call ?_; ((refine s_call (int_c w hst (b.length : Nat) (nat_i64 hm)) inX rfl ?_; clear hst; rintro v w hst)))) <;> (try refine nX ?_) <;> (try replace hst := nH hst)) | ((fail_if_success (go_big_may)); (go_step)) | (((with_reducible refine Sl.k_call ?_; (refine s_qt hst (by exact qt_len_str evX inX) ?_))) <;> (try refine nX ?_)))
  have hel := encI_len b.length
  refine s_append_str (k := 0) hst evX rfl rfl inX inX (by kernel_rfl) (by omega) (by omega) ?_
  clear hst; intro v' w hst
  refine nX ?_
  repeat' (((fail_if_success (go_big_may)); (go_step)))
  go_ret
  refine ⟨_, rfl, ?_⟩
  rw [encB, u8s_append, List.length_append]
  exact hst

set_option maxRecDepth 8000 in
set_option maxHeartbeats 400000 in
theorem encDigs_c {S M} (w : World) (hst : St S M w) (vl : Value) (xs : List Dg) (hl : RSl S vl xs) (hm : xs.length ≤ 1048576) :
    Rets Tryd.prog 87 [vl] w fun v w' => St S (.sl v 5 1 (encD xs).length (u8s (encD xs)) :: M) w' := by
  unfold Rets
  go_enter Tryd.func87, Tryd.ntmps87
  repeat' (first | (((with_reducible refine Sl.k_call ?_; ((refine s_call (int_c w hst (xs.length : Nat) (nat_i64 hm)) inX rfl ?_; clear hst; rintro v w hst)))) <;> (try refine nX ?_) <;> (try replace hst := nH hst)) | ((fail_if_success (go_big_may)); (go_step)) | (((with_reducible refine Sl.k_call ?_; (refine s_qt hst (by exact qt_len evX asX inX) ?_))) <;> (try refine nX ?_)))
  go_loopw [3, 11] (fun u v wr => ∃ i : Nat, i ≤ xs.length ∧ v = .int .i64 i ∧ St S (.sl u 5 1 (encI xs.length ++ (xs.take i).flatMap (·.l)).length (u8s (encI xs.length ++ (xs.take i).flatMap (·.l))) :: M) wr) (fun _ v _ => xs.length - (intOf v).toNat)
  case atStart => exact ⟨0, Nat.zero_le _, rfl, by simpa using hst⟩
  case round =>
    clear hst
    obtain ⟨i, hi, rfl, hst⟩ := hrel
    have hu := sl_one hst
    by_cases hlt : i < xs.length
    · have hcl : (encI xs.length ++ (xs.take i).flatMap (·.l)).length = (encI xs.length).length + ((xs.take i).flatMap (·.l)).length := List.length_append
      have htk : (xs.take (i + 1)).flatMap (·.l) = (xs.take i).flatMap (·.l) ++ xs[i].l := by rw [List.take_add_one, List.getElem?_eq_getElem hlt, Option.toList_some, List.flatMap_append, List.flatMap_cons, List.flatMap_nil, List.append_nil]
      have hle := dgs_len (hl.dgs) i
      have hel := encI_len xs.length
      have Htk := Lib.hid htk
      clear htk
      generalize hc : encI xs.length ++ (xs.take i).flatMap (·.l) = c at *
      have Hc := Lib.hid hc
      clear hc
      repeat' (first | ((fail_if_success (go_big_may)); (go_step)) | ((first | (with_reducible refine Sl.k_load ?_; ((refine s_ex hst (qt_ldp evX asX inX) ?_; rintro v ⟨cl, rfl, hcl⟩))) | (with_reducible refine Sl.k_index ?_; (((refine s_ex hst (qt_index evX asX rfl inX inX omX omX) ?_); rintro v hp; (try simp only [Int.toNat_natCast, Int.toNat_natCast_add_one, Int.reduceToNat] at hp))))) <;> (try refine nX ?_)) | (with_reducible refine Sl.gate rfl ?_; (go_step)) | ((((first | (with_reducible refine Sl.k_store ?_; (refine s_stR hst rfl BoxIn.h evX asX inX rfl rfl ?_); clear hst; intro w hst) | (refine s_alloc hst inX ?_; clear hst; intro bk w hst)))) <;> (try refine nX ?_) <;> (try replace hst := nH hst)))
      obtain ⟨hdl, rfl⟩ := dg_cells hcl
      refine s_qt hst (qt_arrSlice evX inX inX) ?_
      refine nX ?_
      repeat' (fail)
      refine s_append_box hst evX evX SlIn.h BoxIn.h inX inX inX (by rw [u8s_length, hdl]) (u8s_one _) (by omega) (by omega) (by decide) ?_
      clear hst; intro v' w hst
      refine nX ?_
      (try replace hst := nH hst)
      repeat' (first | ((fail_if_success (go_big_may)); (go_step)) | (with_reducible refine Sl.gate rfl ?_; (go_step)))
      go_roundw
      case rel =>
        refine ⟨i + 1, by omega, by go_num, ?_⟩
        rw [Htk.out, ← List.append_assoc, Hc.out, u8s_append, List.length_append, hdl]
        exact hst.drop
      case measure => simp [intOf]; omega
    · repeat' (first | ((fail_if_success (go_big_may)); (go_step)) | (with_reducible refine Sl.gate rfl ?_; (go_step)))
      go_ret
      refine ⟨_, rfl, ?_⟩
      rw [encD]
      rw [List.take_of_length_le (by omega)] at hst
      exact hst
end Go.Proofs.YtjapdhaimbalkaaDoor

/- Package wire: lengths and byte strings, decoded. -/
--@opt
namespace Go.Proofs.YtjapdhaimbalkaaDoor
set_option linter.unusedSimpArgs false
set_option linter.unusedVariables false
open Go.RowKit Go.Sl

theorem unzig_i64 {u : Nat} (h : u < 2 ^ 64) : I64 (unzig u) := by unfold unzig I64; split <;> omega

theorem getF_spec : ∀ (f k u : Nat) (r : List UInt8), f + k = 10 → u < 2 ^ (7 * k) →
    (getF f k u r).2.1 ≤ k + r.length ∧ I64 (getF f k u r).1 ∧ ((getF f k u r).2.2 = 0 ∨ getF f k u r = (0, 0, 6) ∨ getF f k u r = (0, 0, 7))
  | 0, _, _, _, _, _ => ⟨by simp [getF], by unfold getF I64; omega, .inr (.inr rfl)⟩
  | _ + 1, _, _, [], _, _ => ⟨by simp [getF], by unfold getF I64; omega, .inr (.inl rfl)⟩
  | f + 1, k, u, c :: r, hk, hu => by
    by_cases h1 : 128 ≤ c.toNat
    · rw [getF_more h1]
      obtain ⟨a, b, d⟩ := getF_spec f (k + 1) _ r (by omega) (group_lt hu)
      exact ⟨by simp only [List.length_cons]; omega, b, d⟩
    · by_cases hb : (c.toNat = 0 ∧ 0 < k) ∨ (k = 9 ∧ 1 < c.toNat)
      · rw [getF_bad h1 hb]; exact ⟨by simp, by unfold I64; omega, .inr (.inr rfl)⟩
      · rw [getF_ok h1 hb]
        refine ⟨by simp only [List.length_cons]; omega, unzig_i64 ?_, .inl rfl⟩
        have hlt := group_lt (c := c.toNat) hu
        rcases Nat.lt_or_ge k 9 with h | h
        · have := pow_le63 (k := k + 1) (by omega)
          omega
        · obtain rfl : k = 9 := by omega
          have : c.toNat ≤ 1 := by omega
          omega
theorem getI_spec (b : List UInt8) : (getI b).2.1 ≤ b.length ∧ I64 (getI b).1 ∧ ((getI b).2.2 = 0 ∨ getI b = (0, 0, 6) ∨ getI b = (0, 0, 7)) := by
  have := getF_spec 10 0 0 b rfl (by simp)
  simpa [getI] using this

def countP (s : Nat) (b : List UInt8) : Int × Nat × Nat :=
  if (getI b).2.2 ≠ 0 then getI b else if (getI b).1 < 0 then ((getI b).1, (getI b).2.1, 7) else if (((b.length - (getI b).2.1) / s : Nat) : Int) < (getI b).1 then ((getI b).1, (getI b).2.1, 6) else getI b
def getB (b : List UInt8) : List UInt8 × Nat × Nat :=
  if (countP 1 b).2.2 ≠ 0 then ([], 0, (countP 1 b).2.2) else ((b.drop (countP 1 b).2.1).take (countP 1 b).1.toNat, (countP 1 b).2.1 + (countP 1 b).1.toNat, 0)

theorem quo_eq {L a s : Nat} (h : a ≤ L) : ((L : Int) - a) / s = (((L - a) / s : Nat) : Int) := by
  rw [Int.natCast_ediv]; congr 1; omega

/-- What a length says, once it is good. -/
theorem countP_spec {s : Nat} {b : List UInt8} (hs : 1 ≤ s) : ((countP s b).2.2 = 0 ∧ 0 ≤ (countP s b).1 ∧ (countP s b).2.1 + (countP s b).1.toNat * s ≤ b.length) ∨ (countP s b).2.2 = 6 ∨ (countP s b).2.2 = 7 := by
  obtain ⟨g1, g2, g3⟩ := getI_spec b
  unfold countP
  by_cases h : (getI b).2.2 ≠ 0
  · rw [if_pos h]
    right
    rcases g3 with g | g | g
    · exact absurd g h
    · rw [g]; exact .inl rfl
    · rw [g]; exact .inr rfl
  · rw [if_neg h]
    split
    · exact .inr (.inr rfl)
    · split
      · exact .inr (.inl rfl)
      · left
        rename_i h1 h2
        refine ⟨by simpa using h, by omega, ?_⟩
        have : (getI b).1.toNat ≤ (b.length - (getI b).2.1) / s := by omega
        have := Nat.mul_le_mul_right s this
        have := Nat.div_mul_le_self (b.length - (getI b).2.1) s
        omega

end Go.Proofs.YtjapdhaimbalkaaDoor

/- Package wire: lists, decoded. -/
--@opt
namespace Go.Proofs.YtjapdhaimbalkaaDoor
set_option linter.unusedSimpArgs false
set_option linter.unusedVariables false
open Go.RowKit Go.Sl

/-- So many integers, one behind the other. -/
def getLF : Nat → List UInt8 → Nat → List Int → List Int × Nat × Nat
  | 0, _, at_, out => (out, at_, 0)
  | m + 1, b, at_, out => if (getI (b.drop at_)).2.2 ≠ 0 then ([], 0, (getI (b.drop at_)).2.2) else getLF m b (at_ + (getI (b.drop at_)).2.1) (out ++ [(getI (b.drop at_)).1])
def getL (b : List UInt8) : List Int × Nat × Nat :=
  if (countP 1 b).2.2 ≠ 0 then ([], 0, (countP 1 b).2.2) else getLF (countP 1 b).1.toNat b (countP 1 b).2.1 []
def listPost (S : Snap) (M : List Chunk) (r : List Int × Nat × Nat) (v : Value) (w : World) : Prop :=
  ∃ u, v = .tuple #[u, .int .i64 (r.2.1 : Nat), .int .i64 (r.2.2 : Nat)] ∧ St S (.sl u 3 1 r.1.length (cF intC r.1) :: M) w

end Go.Proofs.YtjapdhaimbalkaaDoor

/- Package wire: lists of digests, decoded. -/
--@opt
namespace Go.Proofs.YtjapdhaimbalkaaDoor
set_option linter.unusedSimpArgs false
set_option linter.unusedVariables false
open Go.RowKit Go.Sl

def dgC (d : Dg) : List Value := u8s d.l
def chunks : Nat → List UInt8 → List Dg
  | 0, _ => []
  | m + 1, r => ⟨r.take 16⟩ :: chunks m (r.drop 16)
theorem chunks_snoc : ∀ (i : Nat) (r : List UInt8), chunks (i + 1) r = chunks i r ++ [⟨(r.drop (16 * i)).take 16⟩]
  | 0, r => by simp [chunks]
  | i + 1, r => by
    rw [chunks, chunks_snoc i, chunks]
    simp only [List.cons_append, List.drop_drop]
    rw [show 16 + 16 * i = 16 * (i + 1) by omega]
theorem chunks_len : ∀ (i : Nat) (r : List UInt8), (chunks i r).length = i
  | 0, _ => rfl
  | i + 1, r => by simp [chunks, chunks_len i]
def getDg (b : List UInt8) : List Dg × Nat × Nat :=
  if (countP 16 b).2.2 ≠ 0 then ([], 0, (countP 16 b).2.2) else (chunks (countP 16 b).1.toNat (b.drop (countP 16 b).2.1), (countP 16 b).2.1 + 16 * (countP 16 b).1.toNat, 0)
def digsPost (S : Snap) (M : List Chunk) (r : List Dg × Nat × Nat) (v : Value) (w : World) : Prop :=
  ∃ u, v = .tuple #[u, .int .i64 (r.2.1 : Nat), .int .i64 (r.2.2 : Nat)] ∧ St S (.sl u 32 16 r.1.length (cF dgC r.1) :: M) w

instance eqt51 : EqTy Tryd.prog 32 := ⟨by kernel_rfl, by kernel_rfl, by kernel_rfl⟩
instance key5 : Key Tryd.prog 5 UInt8 1 := key_u8 (by kernel_rfl)
instance key51 : Key Tryd.prog 32 Dg 2 := key_arr inferInstance (by kernel_rfl) (by kernel_rfl) (by decide)

end Go.Proofs.YtjapdhaimbalkaaDoor

/- Package wire: the contracts once more, what is made taken as data. -/
--@opt
namespace Go.Proofs.YtjapdhaimbalkaaDoor
set_option linter.unusedSimpArgs false
set_option linter.unusedVariables false
open Go.RowKit Go.Sl

theorem RL_cons {α : Type} [Rep α] {S : Snap} {c cs : List Value} {x : α} {xs : List α} (h : Rep.R S c x) (hs : RL S cs xs) : RL S (c ++ cs) (x :: xs) := by
  have hl := Rep.len h
  refine ⟨by rw [List.length_append, hl, hs.1, List.length_cons, Nat.succ_mul]; omega, fun i y hy => ?_⟩
  cases i with
  | zero =>
    obtain rfl : x = y := by simpa using hy
    rw [Nat.zero_mul, List.drop_zero, ← hl, List.take_left]; exact h
  | succ i =>
    have := hs.2 i y (by simpa using hy)
    rw [show (i + 1) * Rep.z α = c.length + i * Rep.z α by rw [hl, Nat.succ_mul]; omega, List.drop_append, List.drop_eq_nil_of_le (by omega), List.nil_append, Nat.add_sub_cancel_left]
    exact this

theorem rl_digs {S : Snap} : ∀ {xs : List Dg}, (∀ d ∈ xs, d.l.length = 16) → RL S (cF dgC xs) xs
  | [], _ => RL.nil
  | d :: xs, h => by
    have := rl_digs (S := S) (xs := xs) fun e he => h e (.tail _ he)
    have hd : Rep.R S (u8s d.l) d := ⟨h d (.head _), rl_u8 d.l⟩
    have e : cF dgC (d :: xs) = u8s d.l ++ cF dgC xs := by simp [cF, dgC]
    rw [e]
    exact RL_cons hd this

theorem chunks_16 : ∀ {n : Nat} {r : List UInt8}, 16 * n ≤ r.length → ∀ d ∈ chunks n r, d.l.length = 16
  | 0, _, _, d, hd => by cases hd
  | n + 1, r, h, d, hd => by
    rcases List.mem_cons.1 hd with rfl | hd
    · simp only [List.length_take]; omega
    · exact chunks_16 (by rw [List.length_drop]; omega) d hd
theorem getDg_16 (b : List UInt8) : ∀ d ∈ (getDg b).1, d.l.length = 16 := by
  have hsp := countP_spec (s := 16) (b := b) (by omega)
  unfold getDg
  split
  · intro d hd; cases hd
  · rename_i h
    have h0 : (countP 16 b).2.2 = 0 := by simpa using h
    rcases hsp with ⟨_, h1, h2⟩ | h1 | h1
    · exact chunks_16 (by rw [List.length_drop]; omega)
    · omega
    · omega
theorem getLF_i64 : ∀ (m : Nat) (b : List UInt8) (a : Nat) (out : List Int), (∀ x ∈ out, I64 x) → ∀ x ∈ (getLF m b a out).1, I64 x
  | 0, _, _, _, h => h
  | m + 1, b, a, out, h => by
    unfold getLF
    split
    · intro x hx; cases hx
    · refine getLF_i64 m b _ _ fun x hx => ?_
      rcases List.mem_append.1 hx with hx | hx
      · exact h x hx
      · obtain rfl := List.mem_singleton.1 hx
        exact (getI_spec _).2.1
theorem getL_i64 (b : List UInt8) : ∀ x ∈ (getL b).1, I64 x := by
  unfold getL
  split
  · intro x hx; cases hx
  · exact getLF_i64 _ _ _ _ fun x hx => by cases hx

abbrev Fz (α : Type) [Rep α] (S : Snap) (M : List Chunk) (xs : List α) (v : Value) (w : World) : Prop := ∃ S', S.Le S' ∧ RSl S' v xs ∧ v.oneCell' = true ∧ St S' M w

theorem fz_u8 {S : Snap} {M : List Chunk} {v : Value} {w : World} {T : TypeId} {b : List UInt8} (h : St S (.sl v T 1 b.length (u8s b) :: M) w) : Fz UInt8 S M b v w := by
  have h1 := sl_one h
  obtain ⟨S', a, c, d⟩ := lit_u8 b h rfl rfl
  exact ⟨S', a, d, h1, c⟩

theorem int_f {S M} (w : World) (hst : St S M w) (n : Int) (hn : I64 n) : Rets Tryd.prog 44 [.int .i64 n] w fun v w' => Fz UInt8 S M (encI n) v w' :=
  Rets.mono (int_c w hst n hn) fun _ _ h => fz_u8 h
theorem bytes_f {S M} (w : World) (hst : St S M w) (b : List UInt8) (hm : b.length ≤ 1048576) : Rets Tryd.prog 45 [.string ⟨b.toArray⟩] w fun v w' => Fz UInt8 S M (encB b) v w' :=
  Rets.mono (bytes_c w hst b hm) fun _ _ h => fz_u8 h
theorem encDigs_f {S M} (w : World) (hst : St S M w) (vl : Value) (xs : List Dg) (hl : RSl S vl xs) (hm : xs.length ≤ 1048576) : Rets Tryd.prog 87 [vl] w fun v w' => Fz UInt8 S M (encD xs) v w' :=
  Rets.mono (encDigs_c w hst vl xs hl hm) fun _ _ h => fz_u8 h

end Go.Proofs.YtjapdhaimbalkaaDoor

/- Package wire: plain mathematics: what was encoded is decoded. -/
namespace Go.Proofs.YtjapdhaimbalkaaDoor
set_option linter.unusedSimpArgs false
set_option linter.unusedVariables false
open Go.RowKit Go.Sl

theorem unzig_zig {n : Int} : unzig (zig n) = n := by
  unfold unzig zig
  split <;> split <;> omega

theorem getF_encF : ∀ (f k v U : Nat) (tail : List UInt8), f + k = 10 → 1 ≤ f → v < 128 ^ f → (0 < k → 0 < v) → U + v * 2 ^ (7 * k) < 2 ^ 64 →
    getF f k U (encF f v ++ tail) = (unzig (U + v * 2 ^ (7 * k)), k + (encF f v).length, 0)
  | 0, _, _, _, _, _, h, _, _, _ => by omega
  | f + 1, k, v, U, tail, hk, _, hv, h0, hlt => by
    by_cases hs : v < 128
    · rw [encF_one hs]
      have hc : (UInt8.ofNat v).toNat = v := by rw [UInt8.toNat_ofNat']; omega
      have hk9 : ¬ (k = 9 ∧ 1 < v) := by
        rintro ⟨rfl, h⟩
        have : 2 * 2 ^ (7 * 9) ≤ v * 2 ^ (7 * 9) := Nat.mul_le_mul_right _ h
        omega
      show getF (f + 1) k U (UInt8.ofNat v :: tail) = _
      rw [getF_ok (by rw [hc]; omega) (by rw [hc]; rintro (⟨h1, h2⟩ | h); exact absurd (h0 h2) (by omega); exact hk9 h), hc, Nat.mod_eq_of_lt hs]
      rfl
    · rw [encF_more hs]
      have hc : (UInt8.ofNat (128 + v % 128)).toNat = 128 + v % 128 := by rw [UInt8.toNat_ofNat']; omega
      show getF (f + 1) k U (UInt8.ofNat (128 + v % 128) :: (encF f (v / 128) ++ tail)) = _
      have hf : 1 ≤ f := by
        rcases Nat.eq_zero_or_pos f with rfl | h
        · simp at hv; omega
        · exact h
      have e : U + v % 128 * 2 ^ (7 * k) + v / 128 * 2 ^ (7 * (k + 1)) = U + v * 2 ^ (7 * k) := by
        rw [Nat.mul_succ, Nat.pow_add, Nat.mul_comm (2 ^ (7 * k)), ← Nat.mul_assoc, Nat.add_assoc, ← Nat.add_mul]
        congr 2
        omega
      rw [getF_more (by rw [hc]; omega), hc, show (128 + v % 128) % 128 = v % 128 by omega,
        getF_encF f (k + 1) (v / 128) _ tail (by omega) hf (Nat.div_lt_of_lt_mul (by rw [← Nat.pow_succ']; exact hv)) (fun _ => by omega) (by rw [e]; exact hlt), e]
      simp only [List.length_cons]
      congr 2
      omega

/-- Decoding the encoding of an integer, whatever follows it. -/
theorem getI_encI {n : Int} (hn : I64 n) (tail : List UInt8) : getI (encI n ++ tail) = (n, (encI n).length, 0) := by
  have hz := zig_lt hn
  have := getF_encF 10 0 (zig n) 0 tail rfl (by omega) (Nat.lt_trans hz pow10) (fun h => by omega) (by simpa using hz)
  unfold getI encI
  rw [this]
  simp [unzig_zig]

theorem encI_app {m n : Int} (hm : I64 m) (hn : I64 n) {a b : List UInt8} (h : encI m ++ a = encI n ++ b) : m = n ∧ a = b := by
  have h1 := getI_encI hm a
  rw [h, getI_encI hn b] at h1
  have e : n = m := congrArg Prod.fst h1
  subst e
  exact ⟨rfl, List.append_cancel_left h⟩

theorem encI_inj {m n : Int} (hm : I64 m) (hn : I64 n) : encI m = encI n ↔ m = n :=
  ⟨fun h => (encI_app (a := []) (b := []) hm hn (by rw [h])).1, fun h => by rw [h]⟩

theorem flat_inj : ∀ {a b : List Int}, (∀ x ∈ a, I64 x) → (∀ x ∈ b, I64 x) → a.length = b.length → a.flatMap encI = b.flatMap encI → a = b
  | [], [], _, _, _, _ => rfl
  | x :: a, y :: b, ha, hb, hl, h => by
    rw [List.flatMap_cons, List.flatMap_cons] at h
    obtain ⟨rfl, h'⟩ := encI_app (ha x (.head _)) (hb y (.head _)) h
    rw [flat_inj (fun z hz => ha z (.tail _ hz)) (fun z hz => hb z (.tail _ hz)) (by simpa using hl) h']

theorem encL_inj {a b : List Int} (ha : ∀ x ∈ a, I64 x) (hb : ∀ x ∈ b, I64 x) (hla : a.length ≤ 1048576) (hlb : b.length ≤ 1048576) : encL a = encL b ↔ a = b := by
  constructor
  · intro h
    obtain ⟨h1, h2⟩ := encI_app (nat_i64 hla) (nat_i64 hlb) h
    exact flat_inj ha hb (by omega) h2
  · rintro rfl; rfl
end Go.Proofs.YtjapdhaimbalkaaDoor

/- Package wire: plain mathematics: byte strings and lists, encoded and decoded. -/
namespace Go.Proofs.YtjapdhaimbalkaaDoor
set_option linter.unusedSimpArgs false
set_option linter.unusedVariables false
open Go.RowKit Go.Sl

theorem encF_pos : ∀ {f u : Nat}, 1 ≤ f → 1 ≤ (encF f u).length
  | 0, _, h => by omega
  | f + 1, u, _ => by unfold encF; split <;> simp
theorem encI_pos (n : Int) : 1 ≤ (encI n).length := encF_pos (by omega)
theorem flat_ge (l : List Int) : l.length ≤ (l.flatMap encI).length := by
  induction l with
  | nil => simp
  | cons x l ih => have := encI_pos x; simp only [List.flatMap_cons, List.length_append, List.length_cons]; omega

theorem countP_enc {n s : Nat} {r : List UInt8} (hn : n ≤ 1048576) (hs : 1 ≤ s) (hr : n * s ≤ r.length) : countP s (encI n ++ r) = ((n : Int), (encI n).length, 0) := by
  have h := getI_encI (nat_i64 hn) r
  have hd : n ≤ ((encI (n : Int) ++ r).length - (encI (n : Int)).length) / s := by
    rw [List.length_append, Nat.add_sub_cancel_left]
    exact (Nat.le_div_iff_mul_le hs).2 hr
  unfold countP
  rw [h]
  simp only []
  rw [if_neg (by simp), if_neg (by omega), if_neg (by omega)]

theorem getB_encB {s t : List UInt8} (hs : s.length ≤ 1048576) : getB (encB s ++ t) = (s, (encB s).length, 0) := by
  have hc : countP 1 (encB s ++ t) = ((s.length : Int), (encI s.length).length, 0) := by
    unfold encB
    rw [List.append_assoc]
    exact countP_enc hs (Nat.le_refl _) (by simp)
  unfold getB
  rw [hc]
  simp only []
  rw [if_neg (by simp)]
  unfold encB
  rw [List.append_assoc, List.drop_left, Int.toNat_natCast, List.take_left, List.length_append]

theorem getLF_enc : ∀ (l : List Int) (b : List UInt8) (a : Nat) (t : List UInt8) (out : List Int), (∀ x ∈ l, I64 x) → b.drop a = l.flatMap encI ++ t → getLF l.length b a out = (out ++ l, a + (l.flatMap encI).length, 0)
  | [], _, _, _, _, _, _ => by simp [getLF]
  | x :: l, b, a, t, out, hx, hd => by
    have e : b.drop a = encI x ++ (l.flatMap encI ++ t) := by rw [hd, List.flatMap_cons, List.append_assoc]
    have hg := getI_encI (hx x (.head _)) (l.flatMap encI ++ t)
    have hd2 : b.drop (a + (encI x).length) = l.flatMap encI ++ t := by rw [← List.drop_drop, e, List.drop_left]
    show getLF (l.length + 1) b a out = _
    unfold getLF
    rw [e, hg]
    simp only []
    rw [if_neg (by simp), getLF_enc l b _ t _ (fun y hy => hx y (.tail _ hy)) hd2]
    simp only [List.append_assoc, List.singleton_append, List.flatMap_cons, List.length_append, Nat.add_assoc]

theorem getL_encL {l : List Int} {t : List UInt8} (hl : l.length ≤ 1048576) (hx : ∀ x ∈ l, I64 x) : getL (encL l ++ t) = (l, (encL l).length, 0) := by
  have e : encL l ++ t = encI l.length ++ (l.flatMap encI ++ t) := by unfold encL; rw [List.append_assoc]
  have hc : countP 1 (encL l ++ t) = ((l.length : Int), (encI l.length).length, 0) := by
    rw [e]
    exact countP_enc hl (Nat.le_refl _) (by have := flat_ge l; rw [List.length_append]; omega)
  unfold getL
  rw [hc]
  simp only []
  rw [if_neg (by simp), Int.toNat_natCast, getLF_enc l _ _ t [] hx (by rw [e, List.drop_left])]
  simp [encL]
end Go.Proofs.YtjapdhaimbalkaaDoor

/- Package wire: plain mathematics: what is decoded is the encoding of the result. -/
namespace Go.Proofs.YtjapdhaimbalkaaDoor
set_option linter.unusedSimpArgs false
set_option linter.unusedVariables false
open Go.RowKit Go.Sl

theorem zig_unzig {u : Nat} : zig (unzig u) = u := by
  unfold unzig zig
  split <;> split <;> omega

theorem getF_canon : ∀ (f k U : Nat) (r : List UInt8) (n : Int) (used : Nat), f + k = 10 → U < 2 ^ (7 * k) → getF f k U r = (n, used, 0) →
    ∃ v, n = unzig (U + v * 2 ^ (7 * k)) ∧ k ≤ used ∧ used - k ≤ r.length ∧ encF f v = r.take (used - k) ∧ (0 < k → 0 < v)
  | 0, _, _, _, _, _, _, _, h => by simp [getF] at h
  | _ + 1, _, _, [], _, _, _, _, h => by simp [getF] at h
  | f + 1, k, U, c :: r, n, used, hk, hU, h => by
    by_cases h1 : 128 ≤ c.toNat
    · rw [getF_more h1] at h
      obtain ⟨v, e1, e2, e3, e4, e5⟩ := getF_canon f (k + 1) _ r n used (by omega) (group_lt hU) h
      have hv := e5 (by omega)
      have hcl := c.toNat_lt
      refine ⟨c.toNat % 128 + 128 * v, ?_, by omega, by simp only [List.length_cons]; omega, ?_, fun _ => by omega⟩
      · rw [e1]
        congr 1
        rw [Nat.mul_succ, Nat.pow_add, Nat.add_mul, Nat.add_assoc, Nat.mul_comm 128 v, Nat.mul_assoc, Nat.mul_comm (2 ^ (7 * k))]
      · rw [encF_more (by omega), show used - k = (used - (k + 1)) + 1 by omega, List.take_succ_cons, ← e4]
        congr 1
        · apply UInt8.toNat_inj.1
          rw [UInt8.toNat_ofNat']; omega
        · congr 1; omega
    · by_cases hb : (c.toNat = 0 ∧ 0 < k) ∨ (k = 9 ∧ 1 < c.toNat)
      · rw [getF_bad h1 hb] at h; simp at h
      · rw [getF_ok h1 hb] at h
        simp only [Prod.mk.injEq, and_true] at h
        obtain ⟨e1, e2⟩ := h
        subst e2
        refine ⟨c.toNat, ?_, by omega, by simp only [List.length_cons]; omega, ?_, fun hk0 => ?_⟩
        · rw [← e1, Nat.mod_eq_of_lt (by omega)]
        · rw [encF_one (by omega), show k + 1 - k = 0 + 1 by omega, List.take_succ_cons, List.take_zero]
          congr 1
          apply UInt8.toNat_inj.1
          rw [UInt8.toNat_ofNat']; omega
        · rcases Nat.eq_zero_or_pos c.toNat with h0 | h0
          · exact absurd (.inl ⟨h0, hk0⟩) hb
          · exact h0

theorem getI_canon {b : List UInt8} {n : Int} {used : Nat} (h : getI b = (n, used, 0)) : used ≤ b.length ∧ encI n = b.take used := by
  obtain ⟨v, e1, _, e3, e4, _⟩ := getF_canon 10 0 0 b n used rfl (by simp) h
  refine ⟨by simpa using e3, ?_⟩
  unfold encI
  rw [e1]
  simp only [Nat.mul_zero, Nat.pow_zero, Nat.mul_one, Nat.zero_add, zig_unzig]
  simpa using e4
end Go.Proofs.YtjapdhaimbalkaaDoor

/- Package wire: plain mathematics: the references' decoding gives what ours gives. -/
namespace Go.Proofs.YtjapdhaimbalkaaDoor
set_option linter.unusedSimpArgs false
set_option linter.unusedVariables false
open Go.RowKit Go.Sl

/-- How many bytes the number takes, so many of them read; 0 if it does not end. -/
def lenF : Nat → Nat → List UInt8 → Nat
  | 0, _, _ => 0
  | _ + 1, _, [] => 0
  | f + 1, k, c :: r => if c.toNat < 128 then k + 1 else lenF f (k + 1) r
/-- The number, its groups read from the last one on. -/
def valF : List UInt8 → Nat
  | [] => 0
  | c :: r => c.toNat % 128 + 128 * valF r
def refI (b : List UInt8) : Int × Nat × Nat :=
  if lenF 10 0 b = 0 ∧ b.length < 10 then (0, 0, 6)
  else if lenF 10 0 b = 0 ∨ encI (unzig (valF (b.take (lenF 10 0 b)) % 2 ^ 64)) ≠ b.take (lenF 10 0 b) then (0, 0, 7)
  else (unzig (valF (b.take (lenF 10 0 b)) % 2 ^ 64), lenF 10 0 b, 0)

theorem lenF_le : ∀ (f k : Nat) (r : List UInt8), lenF f k r = 0 ∨ (k < lenF f k r ∧ lenF f k r ≤ k + r.length ∧ lenF f k r ≤ k + f)
  | 0, _, _ => .inl rfl
  | _ + 1, _, [] => .inl rfl
  | f + 1, k, c :: r => by
    unfold lenF
    split
    · right; simp
    · rcases lenF_le f (k + 1) r with h | ⟨h1, h2, h3⟩
      · exact .inl h
      · right; simp only [List.length_cons]; omega
theorem getF_ok_len : ∀ (f k u : Nat) (r : List UInt8), (getF f k u r).2.2 = 0 → lenF f k r = (getF f k u r).2.1
  | 0, _, _, _, h => by simp [getF] at h
  | _ + 1, _, _, [], h => by simp [getF] at h
  | f + 1, k, u, c :: r, h => by
    by_cases h1 : 128 ≤ c.toNat
    · rw [getF_more h1] at h ⊢
      rw [lenF, if_neg (by omega)]
      exact getF_ok_len f _ _ _ h
    · by_cases hb : (c.toNat = 0 ∧ 0 < k) ∨ (k = 9 ∧ 1 < c.toNat)
      · rw [getF_bad h1 hb] at h; simp at h
      · rw [getF_ok h1 hb, lenF, if_pos (by omega)]
theorem getF_none : ∀ (f k u : Nat) (r : List UInt8), lenF f k r = 0 → getF f k u r = if r.length < f then (0, 0, 6) else (0, 0, 7)
  | 0, _, _, _, _ => by simp [getF]
  | f + 1, _, _, [], _ => by simp [getF]
  | f + 1, k, u, c :: r, h => by
    unfold lenF at h
    split at h
    · omega
    · rename_i hc
      rw [getF_more (by omega), getF_none f _ _ _ h]
      simp only [List.length_cons, Nat.add_lt_add_iff_right]
theorem getF_some : ∀ (f k u : Nat) (r : List UInt8), lenF f k r ≠ 0 → (getF f k u r).2.2 ≠ 6
  | 0, _, _, _, h => (h rfl).elim
  | _ + 1, _, _, [], h => (h rfl).elim
  | f + 1, k, u, c :: r, h => by
    by_cases h1 : 128 ≤ c.toNat
    · rw [getF_more h1]
      rw [lenF, if_neg (by omega)] at h
      exact getF_some f _ _ _ h
    · by_cases hb : (c.toNat = 0 ∧ 0 < k) ∨ (k = 9 ∧ 1 < c.toNat)
      · rw [getF_bad h1 hb]; simp
      · rw [getF_ok h1 hb]; simp
theorem valF_encF : ∀ (f u : Nat), u < 128 ^ f → valF (encF f u) = u
  | 0, u, h => by simp at h; subst h; rfl
  | f + 1, u, h => by
    by_cases hlt : u < 128
    · rw [encF_one hlt]
      simp only [valF, UInt8.toNat_ofNat']
      omega
    · rw [encF_more hlt]
      simp only [valF, UInt8.toNat_ofNat']
      rw [valF_encF f (u / 128) (by rw [Nat.pow_succ] at h; exact Nat.div_lt_of_lt_mul (by rw [Nat.mul_comm]; exact h))]
      omega
theorem refI_eq (b : List UInt8) : refI b = getI b := by
  unfold refI
  by_cases h0 : lenF 10 0 b = 0
  · have := getF_none 10 0 0 b h0
    rw [getI, this]
    by_cases hl : b.length < 10
    · rw [if_pos ⟨h0, hl⟩, if_pos hl]
    · rw [if_neg (by omega), if_pos (.inl h0), if_neg hl]
  · rw [if_neg (by omega)]
    obtain ⟨s1, s2, s3⟩ := getI_spec b
    rcases s3 with s3 | s3 | s3
    · obtain ⟨x, used, e, hg⟩ : ∃ x used e, getI b = (x, used, e) := ⟨_, _, _, rfl⟩
      rw [hg] at s3 s2
      obtain rfl : e = 0 := s3
      have s2 : I64 x := s2
      have hl : lenF 10 0 b = used := by
        have := getF_ok_len 10 0 0 b (by show (getI b).2.2 = 0; rw [hg])
        rw [this]
        show (getI b).2.1 = used
        rw [hg]
      obtain ⟨c1, c2⟩ := getI_canon hg
      have hv : valF (b.take used) = zig x := by
        rw [← c2]
        exact valF_encF 10 (zig x) (Nat.lt_trans (zig_lt s2) pow10)
      rw [hl, hv, Nat.mod_eq_of_lt (zig_lt s2), unzig_zig, if_neg, hg]
      intro h
      rcases h with h | h
      · omega
      · exact h c2
    · exact (getF_some 10 0 0 b h0 (by show (getI b).2.2 = 6; rw [s3])).elim
    · rw [s3, if_pos]
      refine .inr fun h => ?_
      have hm : I64 (unzig (valF (b.take (lenF 10 0 b)) % 2 ^ 64)) := unzig_i64 (Nat.mod_lt _ (by decide))
      have := getI_encI hm (b.drop (lenF 10 0 b))
      rw [h, List.take_append_drop, s3] at this
      simp at this

/-- A length, as the references read it. -/
def refP (s : Nat) (b : List UInt8) : Int × Nat × Nat :=
  if (getI b).2.2 ≠ 0 then (0, 0, (getI b).2.2) else if (getI b).1 < 0 then (0, 0, 7) else if (b.length : Int) < (getI b).1 ∨ (b.length : Int) - (getI b).2.1 < (getI b).1 * s then (0, 0, 6) else getI b
theorem refP_eq {s : Nat} (hs : 1 ≤ s) (b : List UInt8) : (refP s b).2.2 = (countP s b).2.2 ∧ ((countP s b).2.2 = 0 → refP s b = countP s b) := by
  obtain ⟨s1, s2, s3⟩ := getI_spec b
  unfold refP countP
  generalize getI b = t at *
  obtain ⟨n, at_, e⟩ := t
  simp only at *
  by_cases he : e = 0
  · subst he
    simp only [ne_eq, not_true_eq_false, if_false]
    by_cases hn : n < 0
    · simp [hn]
    · obtain ⟨m, rfl⟩ : ∃ m : Nat, n = m := ⟨n.toNat, by omega⟩
      have hiff : ((b.length : Int) < (m : Int) ∨ (b.length : Int) - at_ < (m : Int) * s) ↔ (((b.length - at_) / s : Nat) : Int) < (m : Int) := by
        have h1 : (b.length - at_) / s < m ↔ b.length - at_ < m * s := Nat.div_lt_iff_lt_mul hs
        have h2 : m ≤ m * s := Nat.le_mul_of_pos_right m hs
        have h3 : ((m : Int) * s) = ((m * s : Nat) : Int) := by push_cast; rfl
        rw [h3]
        constructor
        · intro h
          have : b.length - at_ < m * s := by omega
          have := h1.2 this
          omega
        · intro h
          have : (b.length - at_) / s < m := by omega
          have := h1.1 this
          right
          omega
      simp only [hn, if_false]
      by_cases hc : (((b.length - at_) / s : Nat) : Int) < (m : Int)
      · rw [if_pos (hiff.2 hc), if_pos hc]; simp
      · rw [if_neg (fun h => hc (hiff.1 h)), if_neg hc]; simp
  · rw [if_pos he, if_pos he]
    simp [he]
end Go.Proofs.YtjapdhaimbalkaaDoor

/- Package wire: plain mathematics: lists and byte strings that are decoded are the encoding of the result. -/
namespace Go.Proofs.YtjapdhaimbalkaaDoor
set_option linter.unusedSimpArgs false
set_option linter.unusedVariables false
open Go.RowKit Go.Sl

theorem countP_canon {s : Nat} {b : List UInt8} {n : Int} {a : Nat} (h : countP s b = (n, a, 0)) : getI b = (n, a, 0) := by
  unfold countP at h
  split at h
  · rename_i h0; rw [h] at h0; simp at h0
  · split at h
    · simp at h
    · split at h
      · simp at h
      · exact h

theorem getB_len (b : List UInt8) : (getB b).1.length ≤ b.length := by
  unfold getB
  split
  · simp
  · simp only [List.length_take, List.length_drop]; omega

theorem getB_canon {b s : List UInt8} {used : Nat} (h : getB b = (s, used, 0)) : used ≤ b.length ∧ encB s = b.take used := by
  have hsp := countP_spec (s := 1) (b := b) (by omega)
  have hc : countP 1 b = ((countP 1 b).1, (countP 1 b).2.1, (countP 1 b).2.2) := rfl
  unfold getB at h
  split at h
  · rename_i h0; simp only [Prod.mk.injEq] at h; exact absurd h.2.2 h0
  · rename_i h0
    have h0 : (countP 1 b).2.2 = 0 := by simpa using h0
    rw [h0] at hc
    obtain ⟨g1, g2⟩ := getI_canon (countP_canon hc)
    rcases hsp with ⟨_, h1, h2⟩ | h1 | h1
    · generalize (countP 1 b).2.1 = a at *
      generalize (countP 1 b).1 = n at *
      obtain ⟨m, rfl⟩ : ∃ m : Nat, n = m := ⟨n.toNat, by omega⟩
      simp only [Int.toNat_natCast, Prod.mk.injEq, and_true] at h h2
      obtain ⟨rfl, rfl⟩ := h
      refine ⟨by omega, ?_⟩
      have hl : ((b.drop a).take m).length = m := by rw [List.length_take, List.length_drop]; omega
      rw [encB, hl, g2, List.take_add]
    · omega
    · omega

theorem getLF_canon : ∀ (m : Nat) (b : List UInt8) (a : Nat) (out l : List Int) (used : Nat), a ≤ b.length → getLF m b a out = (l, used, 0) →
    ∃ l2, l = out ++ l2 ∧ l2.length = m ∧ a ≤ used ∧ used ≤ b.length ∧ l2.flatMap encI = (b.drop a).take (used - a)
  | 0, b, a, out, l, used, ha, h => by
    simp only [getLF, Prod.mk.injEq, and_true] at h
    obtain ⟨rfl, rfl⟩ := h
    exact ⟨[], by simp, rfl, Nat.le_refl _, ha, by simp⟩
  | m + 1, b, a, out, l, used, ha, h => by
    unfold getLF at h
    split at h
    · rename_i h0; simp only [Prod.mk.injEq] at h; exact absurd h.2.2 h0
    · rename_i h0
      have h0 : (getI (b.drop a)).2.2 = 0 := by simpa using h0
      have hc : getI (b.drop a) = ((getI (b.drop a)).1, (getI (b.drop a)).2.1, 0) := by rw [← h0]
      obtain ⟨g1, g2⟩ := getI_canon hc
      rw [List.length_drop] at g1
      generalize (getI (b.drop a)).1 = x at *
      generalize (getI (b.drop a)).2.1 = u at *
      obtain ⟨l2, e1, e2, e3, e4, e5⟩ := getLF_canon m b (a + u) _ l used (by omega) h
      refine ⟨x :: l2, by rw [e1]; simp, by simp [e2], by omega, e4, ?_⟩
      rw [List.flatMap_cons, g2, e5, show used - a = u + (used - (a + u)) by omega, List.take_add, List.drop_drop]

theorem getLF_len : ∀ (m : Nat) (b : List UInt8) (a : Nat) (out : List Int), (getLF m b a out).1.length ≤ out.length + m
  | 0, _, _, _ => by simp [getLF]
  | m + 1, b, a, out => by
    unfold getLF
    split
    · simp
    · have := getLF_len m b (a + (getI (b.drop a)).2.1) (out ++ [(getI (b.drop a)).1])
      simp only [List.length_append, List.length_cons, List.length_nil] at this
      omega
theorem getL_len (b : List UInt8) : (getL b).1.length ≤ b.length := by
  have hsp := countP_spec (s := 1) (b := b) (by omega)
  unfold getL
  split
  · simp
  · rename_i h0
    have := getLF_len (countP 1 b).1.toNat b (countP 1 b).2.1 []
    have h0 : (countP 1 b).2.2 = 0 := by simpa using h0
    simp only [List.length_nil] at this
    omega
theorem getL_canon {b : List UInt8} {l : List Int} {used : Nat} (h : getL b = (l, used, 0)) : used ≤ b.length ∧ encL l = b.take used := by
  have hsp := countP_spec (s := 1) (b := b) (by omega)
  have hc : countP 1 b = ((countP 1 b).1, (countP 1 b).2.1, (countP 1 b).2.2) := rfl
  unfold getL at h
  split at h
  · rename_i h0; simp only [Prod.mk.injEq] at h; exact absurd h.2.2 h0
  · rename_i h0
    have h0 : (countP 1 b).2.2 = 0 := by simpa using h0
    rw [h0] at hc
    obtain ⟨g1, g2⟩ := getI_canon (countP_canon hc)
    rcases hsp with ⟨_, h1, h2⟩ | h1 | h1
    · generalize (countP 1 b).2.1 = a at *
      generalize (countP 1 b).1 = n at *
      obtain ⟨m, rfl⟩ : ∃ m : Nat, n = m := ⟨n.toNat, by omega⟩
      rw [Int.toNat_natCast] at h
      obtain ⟨l2, e1, e2, e3, e4, e5⟩ := getLF_canon m b a [] l used g1 h
      simp only [List.nil_append] at e1
      subst e1
      refine ⟨e4, ?_⟩
      rw [encL, e2, g2, e5]
      conv => rhs; rw [show used = a + (used - a) by omega, List.take_add]
    · omega
    · omega

end Go.Proofs.YtjapdhaimbalkaaDoor

/- Package wire: plain mathematics: lists of digests decoded; encodings cut short. -/
namespace Go.Proofs.YtjapdhaimbalkaaDoor
set_option linter.unusedSimpArgs false
set_option linter.unusedVariables false
open Go.RowKit Go.Sl

theorem dflat_len : ∀ {d : List Dg}, (∀ x ∈ d, x.l.length = 16) → (d.flatMap (·.l)).length = 16 * d.length
  | [], _ => rfl
  | x :: d, h => by
    have := dflat_len fun y hy => h y (.tail _ hy)
    have := h x (.head _)
    simp only [List.flatMap_cons, List.length_append, List.length_cons]; omega

theorem getF_cut : ∀ (f k v U i : Nat), i < (encF f v).length → getF f k U ((encF f v).take i) = (0, 0, 6)
  | 0, _, _, _, i, h => by simp [encF] at h
  | f + 1, k, v, U, 0, _ => by rw [List.take_zero]; rfl
  | f + 1, k, v, U, i + 1, h => by
    by_cases hs : v < 128
    · rw [encF_one hs] at h; simp at h
    · rw [encF_more hs] at h ⊢
      have hc : (UInt8.ofNat (128 + v % 128)).toNat = 128 + v % 128 := by rw [UInt8.toNat_ofNat']; omega
      rw [List.take_succ_cons, getF_more (by rw [hc]; omega), getF_cut f (k + 1) (v / 128) _ i (by simpa using h)]
theorem getI_cut {n : Int} {i : Nat} (h : i < (encI n).length) : getI ((encI n).take i) = (0, 0, 6) := getF_cut 10 0 (zig n) 0 i h

theorem take_app {a b : List UInt8} {i : Nat} (h : a.length ≤ i) : (a ++ b).take i = a ++ b.take (i - a.length) := by
  rw [List.take_append, List.take_of_length_le h]

/-- A length ahead of too little. -/
theorem countP_cut {n s : Nat} {r : List UInt8} {i : Nat} (hn : n ≤ 1048576) (hs : 1 ≤ s) (hi : i < (encI n).length + r.length) (hr : r.length ≤ n * s) : (countP s ((encI n ++ r).take i)).2.2 = 6 := by
  by_cases h : i < (encI n).length
  · rw [List.take_append_of_le_length (by omega)]
    unfold countP
    rw [getI_cut h]
    rfl
  · rw [take_app (by omega)]
    have hg := getI_encI (nat_i64 hn) (r.take (i - (encI (n : Int)).length))
    have hd : ((encI (n : Int) ++ r.take (i - (encI (n : Int)).length)).length - (encI (n : Int)).length) / s < n := by
      rw [List.length_append, Nat.add_sub_cancel_left, List.length_take]
      exact (Nat.div_lt_iff_lt_mul hs).2 (by omega)
    unfold countP
    rw [hg]
    simp only []
    rw [if_neg (by simp), if_neg (by omega), if_pos (by omega)]

theorem getB_cut {s : List UInt8} {i : Nat} (hs : s.length ≤ 1048576) (h : i < (encB s).length) : (getB ((encB s).take i)).2.2 = 6 := by
  have hc : (countP 1 ((encB s).take i)).2.2 = 6 := countP_cut hs (Nat.le_refl _) (by unfold encB at h; rwa [List.length_append] at h) (by simp)
  unfold getB
  rw [if_pos (by rw [hc]; simp)]
  exact hc
theorem getDg_cut {d : List Dg} {i : Nat} (hd : d.length ≤ 1048576) (hx : ∀ x ∈ d, x.l.length = 16) (h : i < (encD d).length) : (getDg ((encD d).take i)).2.2 = 6 := by
  have hl := dflat_len hx
  have hc : (countP 16 ((encD d).take i)).2.2 = 6 := countP_cut hd (by omega) (by unfold encD at h; rwa [List.length_append] at h) (by omega)
  unfold getDg
  rw [if_pos (by rw [hc]; simp)]
  exact hc

theorem chunks_flat : ∀ {d : List Dg} (t : List UInt8), (∀ x ∈ d, x.l.length = 16) → chunks d.length (d.flatMap (·.l) ++ t) = d
  | [], _, _ => rfl
  | x :: d, t, h => by
    have h0 := h x (.head _)
    have ih := chunks_flat t fun y hy => h y (.tail _ hy)
    show (⟨List.take 16 _⟩ : Dg) :: chunks d.length _ = _
    rw [List.flatMap_cons, List.append_assoc, List.take_left' h0, List.drop_left' h0, ih]
theorem getDg_encD {d : List Dg} {t : List UInt8} (hd : d.length ≤ 1048576) (h : ∀ x ∈ d, x.l.length = 16) : getDg (encD d ++ t) = (d, (encD d).length, 0) := by
  have e : encD d ++ t = encI d.length ++ (d.flatMap (·.l) ++ t) := by unfold encD; rw [List.append_assoc]
  have hl := dflat_len h
  have hc : countP 16 (encD d ++ t) = ((d.length : Int), (encI d.length).length, 0) := by
    rw [e]
    exact countP_enc hd (by omega) (by rw [List.length_append]; omega)
  unfold getDg
  rw [hc]
  simp only []
  rw [if_neg (by simp), Int.toNat_natCast, e, List.drop_left, chunks_flat t h]
  unfold encD
  rw [List.length_append, hl]

theorem chunks_canon : ∀ {n : Nat} {r : List UInt8}, 16 * n ≤ r.length → (chunks n r).flatMap (·.l) = r.take (16 * n)
  | 0, _, _ => by simp [chunks]
  | n + 1, r, h => by
    rw [chunks, List.flatMap_cons, chunks_canon (by rw [List.length_drop]; omega), show 16 * (n + 1) = 16 + 16 * n by omega, List.take_add]
theorem getDg_len (b : List UInt8) : (getDg b).1.length ≤ b.length := by
  have hsp := countP_spec (s := 16) (b := b) (by omega)
  unfold getDg
  split
  · simp
  · rename_i h0
    have h0 : (countP 16 b).2.2 = 0 := by simpa using h0
    simp only [chunks_len]
    omega
theorem getDg_canon {b : List UInt8} {d : List Dg} {used : Nat} (h : getDg b = (d, used, 0)) : used ≤ b.length ∧ encD d = b.take used := by
  have hsp := countP_spec (s := 16) (b := b) (by omega)
  have hc : countP 16 b = ((countP 16 b).1, (countP 16 b).2.1, (countP 16 b).2.2) := rfl
  unfold getDg at h
  split at h
  · rename_i h0; simp only [Prod.mk.injEq] at h; exact absurd h.2.2 h0
  · rename_i h0
    have h0 : (countP 16 b).2.2 = 0 := by simpa using h0
    rw [h0] at hc
    obtain ⟨g1, g2⟩ := getI_canon (countP_canon hc)
    rcases hsp with ⟨_, h1, h2⟩ | h1 | h1
    · generalize (countP 16 b).2.1 = a at *
      generalize (countP 16 b).1 = n at *
      obtain ⟨m, rfl⟩ : ∃ m : Nat, n = m := ⟨n.toNat, by omega⟩
      simp only [Int.toNat_natCast, Prod.mk.injEq, and_true] at h h2
      obtain ⟨rfl, rfl⟩ := h
      refine ⟨by omega, ?_⟩
      rw [encD, chunks_len, g2, chunks_canon (by rw [List.length_drop]; omega), List.take_add]
    · omega
    · omega
end Go.Proofs.YtjapdhaimbalkaaDoor
