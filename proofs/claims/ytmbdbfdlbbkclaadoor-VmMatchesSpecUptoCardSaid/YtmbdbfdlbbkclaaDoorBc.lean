/- The types of this program; package vm in plain form; its instructions walked, first part. -/
import Derived.Test.YtmbdbfdlbbkclaaDoorRows
import Derived.Test.YtmbdbfdlbbkclaaDoorBa
import Derived.Test.YtmbdbfdlbbkclaaDoorBb

/- The types of this program, as the rules ask of them. Written by a program of ours. -/
namespace Go.Proofs.YtmbdbfdlbbkclaaDoor
set_option linter.unusedSimpArgs false
set_option linter.unusedVariables false
open Go.Sl

instance ty2 : Ty Tryd.prog 2 false 1 [.int .i64 0] 8 := ⟨by kernel_rfl, by kernel_rfl, rfl, rfl, rfl, by simp⟩
instance int2 : IntT Tryd.prog 2 .i64 := ⟨by kernel_rfl⟩
instance ty3 : Ty Tryd.prog 3 false 1 [.int .i64 0] 8 := ⟨by kernel_rfl, by kernel_rfl, rfl, rfl, rfl, by simp⟩
instance int3 : IntT Tryd.prog 3 .i64 := ⟨by kernel_rfl⟩
instance ty4 : Ty Tryd.prog 4 false 1 [.bool false] 1 := ⟨by kernel_rfl, by kernel_rfl, rfl, rfl, rfl, by simp⟩
instance bool4 : BoolT Tryd.prog 4 := ⟨by kernel_rfl⟩
instance ty5 : Ty Tryd.prog 5 false 1 [.int .u8 0] 1 := ⟨by kernel_rfl, by kernel_rfl, rfl, rfl, rfl, by simp⟩
instance int5 : IntT Tryd.prog 5 .u8 := ⟨by kernel_rfl⟩
instance ty20 : Ty Tryd.prog 20 false 1 [.nilIface] 16 := ⟨by kernel_rfl, by kernel_rfl, rfl, rfl, rfl, by simp⟩
instance ty22 : Ty Tryd.prog 22 false 1 [.slice none 0 0] 24 := ⟨by kernel_rfl, by kernel_rfl, rfl, rfl, rfl, by simp⟩
instance sl22 : SlT Tryd.prog 22 42 := ⟨by kernel_rfl⟩
instance ty23 : Ty Tryd.prog 23 true 3 [.slice none 0 0, .int .i64 0, .int .i64 0] 40 := ⟨by kernel_rfl, by kernel_rfl, rfl, rfl, rfl, by simp⟩
instance fld23_0 : FldT Tryd.prog 23 0 0 := ⟨by kernel_rfl⟩
instance fld23_1 : FldT Tryd.prog 23 1 1 := ⟨by kernel_rfl⟩
instance fld23_2 : FldT Tryd.prog 23 2 2 := ⟨by kernel_rfl⟩
instance str23 : StructT Tryd.prog 23 [(0, 1), (1, 1), (2, 1)] := ⟨by kernel_rfl⟩
instance ty24 : Ty Tryd.prog 24 true 3 [.slice none 0 0, .int .i64 0, .int .i64 0] 40 := ⟨by kernel_rfl, by kernel_rfl, rfl, rfl, rfl, by simp⟩
instance fld24_0 : FldT Tryd.prog 24 0 0 := ⟨by kernel_rfl⟩
instance fld24_1 : FldT Tryd.prog 24 1 1 := ⟨by kernel_rfl⟩
instance fld24_2 : FldT Tryd.prog 24 2 2 := ⟨by kernel_rfl⟩
instance str24 : StructT Tryd.prog 24 [(0, 1), (1, 1), (2, 1)] := ⟨by kernel_rfl⟩
instance ty25 : Ty Tryd.prog 25 false 1 [.slice none 0 0] 24 := ⟨by kernel_rfl, by kernel_rfl, rfl, rfl, rfl, by simp⟩
instance sl25 : SlT Tryd.prog 25 3 := ⟨by kernel_rfl⟩
instance ty28 : Ty Tryd.prog 28 true 4 [.slice none 0 0, .slice none 0 0, .int .i64 0, .int .i64 0] 64 := ⟨by kernel_rfl, by kernel_rfl, rfl, rfl, rfl, by simp⟩
instance fld28_0 : FldT Tryd.prog 28 0 0 := ⟨by kernel_rfl⟩
instance fld28_1 : FldT Tryd.prog 28 1 1 := ⟨by kernel_rfl⟩
instance fld28_2 : FldT Tryd.prog 28 2 2 := ⟨by kernel_rfl⟩
instance fld28_3 : FldT Tryd.prog 28 3 3 := ⟨by kernel_rfl⟩
instance str28 : StructT Tryd.prog 28 [(0, 1), (1, 1), (2, 1), (3, 1)] := ⟨by kernel_rfl⟩
instance ty29 : Ty Tryd.prog 29 true 4 [.slice none 0 0, .slice none 0 0, .int .i64 0, .int .i64 0] 64 := ⟨by kernel_rfl, by kernel_rfl, rfl, rfl, rfl, by simp⟩
instance fld29_0 : FldT Tryd.prog 29 0 0 := ⟨by kernel_rfl⟩
instance fld29_1 : FldT Tryd.prog 29 1 1 := ⟨by kernel_rfl⟩
instance fld29_2 : FldT Tryd.prog 29 2 2 := ⟨by kernel_rfl⟩
instance fld29_3 : FldT Tryd.prog 29 3 3 := ⟨by kernel_rfl⟩
instance str29 : StructT Tryd.prog 29 [(0, 1), (1, 1), (2, 1), (3, 1)] := ⟨by kernel_rfl⟩
instance ty30 : Ty Tryd.prog 30 false 1 [.int .i64 0] 8 := ⟨by kernel_rfl, by kernel_rfl, rfl, rfl, rfl, by simp⟩
instance int30 : IntT Tryd.prog 30 .i64 := ⟨by kernel_rfl⟩
instance ty34 : Ty Tryd.prog 34 false 1 [.int .u16 0] 2 := ⟨by kernel_rfl, by kernel_rfl, rfl, rfl, rfl, by simp⟩
instance int34 : IntT Tryd.prog 34 .u16 := ⟨by kernel_rfl⟩
instance ty35 : Ty Tryd.prog 35 true 6 [.slice none 0 0, .int .i64 0, .int .i64 0, .slice none 0 0, .slice none 0 0, .int .u16 0] 96 := ⟨by kernel_rfl, by kernel_rfl, rfl, rfl, rfl, by simp⟩
instance fld35_0 : FldT Tryd.prog 35 0 0 := ⟨by kernel_rfl⟩
instance fld35_1 : FldT Tryd.prog 35 1 3 := ⟨by kernel_rfl⟩
instance fld35_2 : FldT Tryd.prog 35 2 4 := ⟨by kernel_rfl⟩
instance fld35_3 : FldT Tryd.prog 35 3 5 := ⟨by kernel_rfl⟩
instance str35 : StructT Tryd.prog 35 [(0, 3), (3, 1), (4, 1), (5, 1)] := ⟨by kernel_rfl⟩
instance ty36 : Ty Tryd.prog 36 true 6 [.slice none 0 0, .int .i64 0, .int .i64 0, .slice none 0 0, .slice none 0 0, .int .u16 0] 96 := ⟨by kernel_rfl, by kernel_rfl, rfl, rfl, rfl, by simp⟩
instance fld36_0 : FldT Tryd.prog 36 0 0 := ⟨by kernel_rfl⟩
instance fld36_1 : FldT Tryd.prog 36 1 3 := ⟨by kernel_rfl⟩
instance fld36_2 : FldT Tryd.prog 36 2 4 := ⟨by kernel_rfl⟩
instance fld36_3 : FldT Tryd.prog 36 3 5 := ⟨by kernel_rfl⟩
instance str36 : StructT Tryd.prog 36 [(0, 3), (3, 1), (4, 1), (5, 1)] := ⟨by kernel_rfl⟩
instance ty38 : Ty Tryd.prog 38 true 7 [.slice none 0 0, .int .i64 0, .int .i64 0, .slice none 0 0, .int .u8 0, .slice none 0 0, .slice none 0 0] 120 := ⟨by kernel_rfl, by kernel_rfl, rfl, rfl, rfl, by simp⟩
instance fld38_0 : FldT Tryd.prog 38 0 0 := ⟨by kernel_rfl⟩
instance fld38_1 : FldT Tryd.prog 38 1 3 := ⟨by kernel_rfl⟩
instance fld38_2 : FldT Tryd.prog 38 2 4 := ⟨by kernel_rfl⟩
instance fld38_3 : FldT Tryd.prog 38 3 5 := ⟨by kernel_rfl⟩
instance fld38_4 : FldT Tryd.prog 38 4 6 := ⟨by kernel_rfl⟩
instance str38 : StructT Tryd.prog 38 [(0, 3), (3, 1), (4, 1), (5, 1), (6, 1)] := ⟨by kernel_rfl⟩
instance ty39 : Ty Tryd.prog 39 true 7 [.slice none 0 0, .int .i64 0, .int .i64 0, .slice none 0 0, .int .u8 0, .slice none 0 0, .slice none 0 0] 120 := ⟨by kernel_rfl, by kernel_rfl, rfl, rfl, rfl, by simp⟩
instance fld39_0 : FldT Tryd.prog 39 0 0 := ⟨by kernel_rfl⟩
instance fld39_1 : FldT Tryd.prog 39 1 3 := ⟨by kernel_rfl⟩
instance fld39_2 : FldT Tryd.prog 39 2 4 := ⟨by kernel_rfl⟩
instance fld39_3 : FldT Tryd.prog 39 3 5 := ⟨by kernel_rfl⟩
instance fld39_4 : FldT Tryd.prog 39 4 6 := ⟨by kernel_rfl⟩
instance str39 : StructT Tryd.prog 39 [(0, 3), (3, 1), (4, 1), (5, 1), (6, 1)] := ⟨by kernel_rfl⟩
instance ty41 : Ty Tryd.prog 41 true 3 [.int .i64 0, .int .i64 0, .int .i64 0] 24 := ⟨by kernel_rfl, by kernel_rfl, rfl, rfl, rfl, by simp⟩
instance fld41_0 : FldT Tryd.prog 41 0 0 := ⟨by kernel_rfl⟩
instance fld41_1 : FldT Tryd.prog 41 1 1 := ⟨by kernel_rfl⟩
instance fld41_2 : FldT Tryd.prog 41 2 2 := ⟨by kernel_rfl⟩
instance str41 : StructT Tryd.prog 41 [(0, 1), (1, 1), (2, 1)] := ⟨by kernel_rfl⟩
instance ty42 : Ty Tryd.prog 42 true 3 [.int .i64 0, .int .i64 0, .int .i64 0] 24 := ⟨by kernel_rfl, by kernel_rfl, rfl, rfl, rfl, by simp⟩
instance fld42_0 : FldT Tryd.prog 42 0 0 := ⟨by kernel_rfl⟩
instance fld42_1 : FldT Tryd.prog 42 1 1 := ⟨by kernel_rfl⟩
instance fld42_2 : FldT Tryd.prog 42 2 2 := ⟨by kernel_rfl⟩
instance str42 : StructT Tryd.prog 42 [(0, 1), (1, 1), (2, 1)] := ⟨by kernel_rfl⟩
instance ty48 : Ty Tryd.prog 48 true 1 [.int .i64 0] 8 := ⟨by kernel_rfl, by kernel_rfl, rfl, rfl, rfl, by simp⟩
instance fld48_0 : FldT Tryd.prog 48 0 0 := ⟨by kernel_rfl⟩
instance str48 : StructT Tryd.prog 48 [(0, 1)] := ⟨by kernel_rfl⟩
instance ty49 : Ty Tryd.prog 49 true 1 [.int .i64 0] 8 := ⟨by kernel_rfl, by kernel_rfl, rfl, rfl, rfl, by simp⟩
instance fld49_0 : FldT Tryd.prog 49 0 0 := ⟨by kernel_rfl⟩
instance str49 : StructT Tryd.prog 49 [(0, 1)] := ⟨by kernel_rfl⟩
instance ty51 : Ty Tryd.prog 51 false 1 [.pointer none] 8 := ⟨by kernel_rfl, by kernel_rfl, rfl, rfl, rfl, by simp⟩
instance ty52 : Ty Tryd.prog 52 true 13 [.slice none 0 0, .int .i64 0, .int .i64 0, .slice none 0 0, .int .i64 0, .slice none 0 0, .slice none 0 0, .int .i64 0, .slice none 0 0, .slice none 0 0, .int .i64 0, .int .i64 0, .bool false] 200 := ⟨by kernel_rfl, by kernel_rfl, rfl, rfl, rfl, by simp⟩
instance fld52_0 : FldT Tryd.prog 52 0 0 := ⟨by kernel_rfl⟩
instance fld52_1 : FldT Tryd.prog 52 1 3 := ⟨by kernel_rfl⟩
instance fld52_2 : FldT Tryd.prog 52 2 4 := ⟨by kernel_rfl⟩
instance fld52_3 : FldT Tryd.prog 52 3 5 := ⟨by kernel_rfl⟩
instance fld52_4 : FldT Tryd.prog 52 4 6 := ⟨by kernel_rfl⟩
instance fld52_5 : FldT Tryd.prog 52 5 7 := ⟨by kernel_rfl⟩
instance fld52_6 : FldT Tryd.prog 52 6 8 := ⟨by kernel_rfl⟩
instance fld52_7 : FldT Tryd.prog 52 7 12 := ⟨by kernel_rfl⟩
instance str52 : StructT Tryd.prog 52 [(0, 3), (3, 1), (4, 1), (5, 1), (6, 1), (7, 1), (8, 4), (12, 1)] := ⟨by kernel_rfl⟩
instance ty53 : Ty Tryd.prog 53 true 13 [.slice none 0 0, .int .i64 0, .int .i64 0, .slice none 0 0, .int .i64 0, .slice none 0 0, .slice none 0 0, .int .i64 0, .slice none 0 0, .slice none 0 0, .int .i64 0, .int .i64 0, .bool false] 200 := ⟨by kernel_rfl, by kernel_rfl, rfl, rfl, rfl, by simp⟩
instance fld53_0 : FldT Tryd.prog 53 0 0 := ⟨by kernel_rfl⟩
instance fld53_1 : FldT Tryd.prog 53 1 3 := ⟨by kernel_rfl⟩
instance fld53_2 : FldT Tryd.prog 53 2 4 := ⟨by kernel_rfl⟩
instance fld53_3 : FldT Tryd.prog 53 3 5 := ⟨by kernel_rfl⟩
instance fld53_4 : FldT Tryd.prog 53 4 6 := ⟨by kernel_rfl⟩
instance fld53_5 : FldT Tryd.prog 53 5 7 := ⟨by kernel_rfl⟩
instance fld53_6 : FldT Tryd.prog 53 6 8 := ⟨by kernel_rfl⟩
instance fld53_7 : FldT Tryd.prog 53 7 12 := ⟨by kernel_rfl⟩
instance str53 : StructT Tryd.prog 53 [(0, 3), (3, 1), (4, 1), (5, 1), (6, 1), (7, 1), (8, 4), (12, 1)] := ⟨by kernel_rfl⟩
instance ty54 : Ty Tryd.prog 54 true 10 [.int .i64 0, .slice none 0 0, .slice none 0 0, .slice none 0 0, .slice none 0 0, .int .i64 0, .int .i64 0, .int .i64 0, .bool false, .int .i64 0] 144 := ⟨by kernel_rfl, by kernel_rfl, rfl, rfl, rfl, by simp⟩
instance fld54_0 : FldT Tryd.prog 54 0 0 := ⟨by kernel_rfl⟩
instance fld54_1 : FldT Tryd.prog 54 1 1 := ⟨by kernel_rfl⟩
instance fld54_2 : FldT Tryd.prog 54 2 2 := ⟨by kernel_rfl⟩
instance fld54_3 : FldT Tryd.prog 54 3 3 := ⟨by kernel_rfl⟩
instance fld54_4 : FldT Tryd.prog 54 4 7 := ⟨by kernel_rfl⟩
instance fld54_5 : FldT Tryd.prog 54 5 8 := ⟨by kernel_rfl⟩
instance fld54_6 : FldT Tryd.prog 54 6 9 := ⟨by kernel_rfl⟩
instance str54 : StructT Tryd.prog 54 [(0, 1), (1, 1), (2, 1), (3, 4), (7, 1), (8, 1), (9, 1)] := ⟨by kernel_rfl⟩
instance ty55 : Ty Tryd.prog 55 true 10 [.int .i64 0, .slice none 0 0, .slice none 0 0, .slice none 0 0, .slice none 0 0, .int .i64 0, .int .i64 0, .int .i64 0, .bool false, .int .i64 0] 144 := ⟨by kernel_rfl, by kernel_rfl, rfl, rfl, rfl, by simp⟩
instance fld55_0 : FldT Tryd.prog 55 0 0 := ⟨by kernel_rfl⟩
instance fld55_1 : FldT Tryd.prog 55 1 1 := ⟨by kernel_rfl⟩
instance fld55_2 : FldT Tryd.prog 55 2 2 := ⟨by kernel_rfl⟩
instance fld55_3 : FldT Tryd.prog 55 3 3 := ⟨by kernel_rfl⟩
instance fld55_4 : FldT Tryd.prog 55 4 7 := ⟨by kernel_rfl⟩
instance fld55_5 : FldT Tryd.prog 55 5 8 := ⟨by kernel_rfl⟩
instance fld55_6 : FldT Tryd.prog 55 6 9 := ⟨by kernel_rfl⟩
instance str55 : StructT Tryd.prog 55 [(0, 1), (1, 1), (2, 1), (3, 4), (7, 1), (8, 1), (9, 1)] := ⟨by kernel_rfl⟩
instance ty60 : Ty Tryd.prog 60 false 1 [.nilFunc] 8 := ⟨by kernel_rfl, by kernel_rfl, rfl, rfl, rfl, by simp⟩
instance ty61 : Ty Tryd.prog 61 true 18 [.nilFunc, .nilFunc, .nilFunc, .nilFunc, .nilFunc, .nilFunc, .nilFunc, .nilFunc, .nilFunc, .nilFunc, .nilFunc, .nilFunc, .nilFunc, .nilFunc, .nilFunc, .nilFunc, .nilFunc, .nilFunc] 144 := ⟨by kernel_rfl, by kernel_rfl, rfl, rfl, rfl, by simp⟩
instance arr61 : ArrT Tryd.prog 61 18 60 := ⟨by kernel_rfl⟩
instance fn3 : Body Tryd.prog 3 := ⟨by kernel_rfl⟩  -- bootchain/bootchainlaw17.VmMatchesSpec
instance fn4 : Body Tryd.prog 4 := ⟨by kernel_rfl⟩  -- bootchain/bootchainlaw17.VmOutcomeIsValid
instance fn5 : Body Tryd.prog 5 := ⟨by kernel_rfl⟩  -- bootchain/bootchainlaw17.VmGlitchBeyondEnd
instance fn6 : Body Tryd.prog 6 := ⟨by kernel_rfl⟩  -- bootchain/bootchainlaw17.VmIgnoresUnreachedCode
instance fn7 : Body Tryd.prog 7 := ⟨by kernel_rfl⟩  -- bootchain/bootchainlaw17.VmArithmetic
instance fn8 : Body Tryd.prog 8 := ⟨by kernel_rfl⟩  -- bootchain/bootchainlaw17.VmLoops
instance fn9 : Body Tryd.prog 9 := ⟨by kernel_rfl⟩  -- bootchain/bootchainlaw17.sanity
instance fn10 : Body Tryd.prog 10 := ⟨by kernel_rfl⟩  -- bootchain/bootchainlaw17.small
instance fn11 : Body Tryd.prog 11 := ⟨by kernel_rfl⟩  -- bootchain/vm.Run
instance fn12 : Body Tryd.prog 12 := ⟨by kernel_rfl⟩  -- bootchain/bootchainref17.Run
instance fn13 : Body Tryd.prog 13 := ⟨by kernel_rfl⟩  -- bootchain/bootchainref17.Same
instance fn14 : Body Tryd.prog 14 := ⟨by kernel_rfl⟩  -- bootchain/bootchainlaw17.truth
instance fn15 : Body Tryd.prog 15 := ⟨by kernel_rfl⟩  -- bootchain/bootchainref17.Ints
instance fn16 : Body Tryd.prog 16 := ⟨by kernel_rfl⟩  -- bootchain/vm.valid
instance fn17 : Body Tryd.prog 17 := ⟨by kernel_rfl⟩  -- bootchain/vm.Run$1
instance fn18 : Body Tryd.prog 18 := ⟨by kernel_rfl⟩  -- (*bootchain/vm.machine).step
instance fn19 : Body Tryd.prog 19 := ⟨by kernel_rfl⟩  -- bootchain/bootchainref17.step
instance fn20 : Body Tryd.prog 20 := ⟨by kernel_rfl⟩  -- bootchain/vm.valid$1
instance fn21 : Body Tryd.prog 21 := ⟨by kernel_rfl⟩  -- slices.ContainsFunc[[]int,int]
instance fn22 : Body Tryd.prog 22 := ⟨by kernel_rfl⟩  -- bootchain/vm.need
instance fn23 : Body Tryd.prog 23 := ⟨by kernel_rfl⟩  -- bootchain/bootchainref17.pops
instance fn24 : Body Tryd.prog 24 := ⟨by kernel_rfl⟩  -- bootchain/bootchainref17.wrap
instance fn25 : Body Tryd.prog 25 := ⟨by kernel_rfl⟩  -- bootchain/bootchainref17.with
instance fn26 : Body Tryd.prog 26 := ⟨by kernel_rfl⟩  -- bootchain/bootchainref17.binary
instance fn27 : Body Tryd.prog 27 := ⟨by kernel_rfl⟩  -- bootchain/bootchainref17.truth
instance fn28 : Body Tryd.prog 28 := ⟨by kernel_rfl⟩  -- bootchain/bootchainref17.in
instance fn29 : Body Tryd.prog 29 := ⟨by kernel_rfl⟩  -- slices.IndexFunc[[]int,int]
instance fn46 : Body Tryd.prog 46 := ⟨by kernel_rfl⟩  -- (*bootchain/vm.machine).constant
instance fn47 : Body Tryd.prog 47 := ⟨by kernel_rfl⟩  -- (*bootchain/vm.machine).load
instance fn48 : Body Tryd.prog 48 := ⟨by kernel_rfl⟩  -- (*bootchain/vm.machine).store
instance fn49 : Body Tryd.prog 49 := ⟨by kernel_rfl⟩  -- (*bootchain/vm.machine).binary
instance fn50 : Body Tryd.prog 50 := ⟨by kernel_rfl⟩  -- (*bootchain/vm.machine).not
instance fn51 : Body Tryd.prog 51 := ⟨by kernel_rfl⟩  -- (*bootchain/vm.machine).branch
instance fn52 : Body Tryd.prog 52 := ⟨by kernel_rfl⟩  -- (*bootchain/vm.machine).jump
instance fn53 : Body Tryd.prog 53 := ⟨by kernel_rfl⟩  -- (*bootchain/vm.machine).note
instance fn54 : Body Tryd.prog 54 := ⟨by kernel_rfl⟩  -- (*bootchain/vm.machine).end
instance fn55 : Body Tryd.prog 55 := ⟨by kernel_rfl⟩  -- (*bootchain/vm.machine).loop
instance fn56 : Body Tryd.prog 56 := ⟨by kernel_rfl⟩  -- (*bootchain/vm.machine).push
instance fn57 : Body Tryd.prog 57 := ⟨by kernel_rfl⟩  -- bootchain/vm.wrap
instance fn58 : Body Tryd.prog 58 := ⟨by kernel_rfl⟩  -- (*bootchain/vm.machine).variable
instance fn59 : Body Tryd.prog 59 := ⟨by kernel_rfl⟩  -- (*bootchain/vm.machine).pop
instance fn60 : Body Tryd.prog 60 := ⟨by kernel_rfl⟩  -- bootchain/vm.truth
instance fn61 : Body Tryd.prog 61 := ⟨by kernel_rfl⟩  -- slices.Contains[[]int,int]
instance fn62 : Body Tryd.prog 62 := ⟨by kernel_rfl⟩  -- slices.Index[[]int,int]
end Go.Proofs.YtmbdbfdlbbkclaaDoor

/- Package vm: plain mathematics: what an execution computes; what an outcome is like; what glitches that are not reached do. -/
namespace Go.Proofs.YtmbdbfdlbbkclaaDoor
set_option linter.unusedSimpArgs false
set_option linter.unusedVariables false
open Go.RowKit Go.Sl

abbrev InsD := Int × Int × Int × Unit
abbrev CodeD := List InsD × Int × Int × Unit
abbrev OutD := List Int × List Int × Int × Int × Unit

/-- A machine's state. -/
structure VS where
  pc : Int
  vars : List Int
  stack : List Int
  br : Nat
  pts : List Int
  notes : List Int
  fin : Int
  steps : Nat
  done : Bool
inductive VR where
  | ok (s : VS)
  | err (e : Nat)
def VR.bind (r : VR) (k : VS → VR) : VR := match r with | .ok s => k s | .err e => .err e

def wrapV (n : Int) : Int := n % 65536
def truthV (b : Bool) : Int := if b then 1 else 0
def pushV (s : VS) (v : Int) : VR := if s.stack.length < 400 then .ok { s with stack := s.stack ++ [v] } else .err 2
def topV (s : VS) : Int := s.stack.getD (s.stack.length - 1) 0
abbrev popV (s : VS) : VS := { s with stack := s.stack.take (s.stack.length - 1) }
def inV (s : VS) (a : Int) : Bool := decide (0 ≤ a ∧ a < s.vars.length)
def binV (op a b : Int) : Int :=
  if op = 4 then wrapV (a + b) else if op = 5 then wrapV (a - b) else if op = 6 then wrapV (a * b) else if op = 7 then truthV (decide (a < b))
  else if op = 8 then truthV (decide (a = b)) else if op = 9 then truthV (decide (a ≠ 0) && decide (b ≠ 0)) else truthV (decide (a ≠ 0) || decide (b ≠ 0))
def orV (p side : Int) : Int := ((p.toNat ||| side.toNat : Nat) : Int)
def setV (l : List Int) (a v : Int) : List Int := l.set a.toNat v
def loopV (v : Int) : Int := max (v - 1) 0

def branchV (gl : List Int) (points : Int) (i : InsD) (s : VS) : VR :=
  if s.stack.length = 0 then .err 21 else
  if 0 ≤ i.2.2.1 ∧ i.2.2.1 < points then
    let s' := { popV s with br := s.br + 1 }
    if (decide (topV s ≠ 0)) ^^ gl.contains (s.br : Int) then .ok { s' with pts := setV s.pts i.2.2.1 (orV (s.pts.getD i.2.2.1.toNat 0) 1) }
    else .ok { s' with pts := setV s.pts i.2.2.1 (orV (s.pts.getD i.2.2.1.toNat 0) 2), pc := i.2.1 }
  else .err 21
def execV (gl : List Int) (points : Int) (i : InsD) (s : VS) : VR :=
  if i.1 = 1 then pushV s (wrapV i.2.1)
  else if i.1 = 2 then if inV s i.2.1 then pushV s (s.vars.getD i.2.1.toNat 0) else .err 21
  else if i.1 = 3 then if s.stack.length = 0 then .err 21 else if inV s i.2.1 then .ok { popV s with vars := setV s.vars i.2.1 (topV s) } else .err 21
  else if i.1 ≤ 10 then if s.stack.length < 2 then .err 21 else pushV (popV (popV s)) (binV i.1 (topV (popV s)) (topV s))
  else if i.1 = 11 then if s.stack.length = 0 then .err 21 else pushV (popV s) (truthV (decide (topV s = 0)))
  else if i.1 = 12 then branchV gl points i s
  else if i.1 = 13 then .ok { s with pc := i.2.1 }
  else if i.1 = 14 then if s.stack.length = 0 then .err 21 else .ok { popV s with notes := s.notes ++ [topV s] }
  else if i.1 = 15 then .ok { s with fin := i.2.1, done := true }
  else if i.1 = 16 then .ok { s with done := true }
  else if inV s i.2.1 then
    let v := loopV (s.vars.getD i.2.1.toNat 0)
    .ok { s with vars := setV s.vars i.2.1 v, pc := if 0 < v then i.2.2.1 else s.pc }
  else .err 21
def insV (c : CodeD) (pc : Int) : InsD := c.1.getD pc.toNat (0, 0, 0, ())
abbrev nextV (s : VS) : VS := { s with pc := s.pc + 1, steps := s.steps + 1 }
def stepV (c : CodeD) (gl : List Int) (s : VS) : VR :=
  if s.steps < 3000 then
    if 0 ≤ s.pc ∧ s.pc < c.1.length then
      if 1 ≤ (insV c s.pc).1 ∧ (insV c s.pc).1 < 18 then execV gl c.2.2.1 (insV c s.pc) (nextV s) else .err 21
    else .err 21
  else .err 20
def runV (c : CodeD) (gl : List Int) : Nat → VS → VR
  | 0, s => .ok s
  | f + 1, s => if s.done then .ok s else (stepV c gl s).bind (runV c gl f)
def startV (c : CodeD) (inputs : List Int) : VS := ⟨0, inputs ++ List.replicate (c.2.1.toNat - inputs.length) 0, [], 0, List.replicate c.2.2.1.toNat 0, [], 0, 0, false⟩
def validV (c : CodeD) (inputs : List Int) : Bool :=
  decide (0 ≤ c.2.2.1) && decide (c.2.2.1 ≤ 8) && decide ((inputs.length : Int) ≤ c.2.1) && decide (c.2.1 ≤ 400) && inputs.all fun n => decide (0 ≤ n ∧ n < 65536)
def outV (s : VS) : OutD := (s.pts, s.notes, s.fin, (s.steps : Int), ())
def out0 : OutD := ([], [], 0, 0, ())
def vmM (c : CodeD) (inputs gl : List Int) : OutD × Nat :=
  if validV c inputs then match runV c gl 3001 (startV c inputs) with | .ok s => (outV s, 0) | .err e => (out0, e)
  else (out0, 1)

/-- The instructions, one by one. -/
theorem exec_elim {gl : List Int} {points : Int} {i : InsD} {s : VS} {m : VR → Prop}
    (h1 : i.1 = 1 → m (pushV s (wrapV i.2.1)))
    (h2 : i.1 = 2 → m (if inV s i.2.1 then pushV s (s.vars.getD i.2.1.toNat 0) else .err 21))
    (h3 : i.1 = 3 → m (if s.stack.length = 0 then .err 21 else if inV s i.2.1 then .ok { popV s with vars := setV s.vars i.2.1 (topV s) } else .err 21))
    (h4 : i.1 ≠ 1 → i.1 ≠ 2 → i.1 ≠ 3 → i.1 ≤ 10 → m (if s.stack.length < 2 then .err 21 else pushV (popV (popV s)) (binV i.1 (topV (popV s)) (topV s))))
    (h11 : i.1 = 11 → m (if s.stack.length = 0 then .err 21 else pushV (popV s) (truthV (decide (topV s = 0)))))
    (h12 : i.1 = 12 → m (branchV gl points i s))
    (h13 : i.1 = 13 → m (.ok { s with pc := i.2.1 }))
    (h14 : i.1 = 14 → m (if s.stack.length = 0 then .err 21 else .ok { popV s with notes := s.notes ++ [topV s] }))
    (h15 : i.1 = 15 → m (.ok { s with fin := i.2.1, done := true }))
    (h16 : i.1 = 16 → m (.ok { s with done := true }))
    (h17 : 16 < i.1 → m (if inV s i.2.1 then .ok { s with vars := setV s.vars i.2.1 (loopV (s.vars.getD i.2.1.toNat 0)), pc := if 0 < loopV (s.vars.getD i.2.1.toNat 0) then i.2.2.1 else s.pc } else .err 21)) :
    m (execV gl points i s) := by
  unfold execV
  by_cases e1 : i.1 = 1
  · rw [if_pos e1]; exact h1 e1
  rw [if_neg e1]
  by_cases e2 : i.1 = 2
  · rw [if_pos e2]; exact h2 e2
  rw [if_neg e2]
  by_cases e3 : i.1 = 3
  · rw [if_pos e3]; exact h3 e3
  rw [if_neg e3]
  by_cases e4 : i.1 ≤ 10
  · rw [if_pos e4]; exact h4 e1 e2 e3 e4
  rw [if_neg e4]
  by_cases e11 : i.1 = 11
  · rw [if_pos e11]; exact h11 e11
  rw [if_neg e11]
  by_cases e12 : i.1 = 12
  · rw [if_pos e12]; exact h12 e12
  rw [if_neg e12]
  by_cases e13 : i.1 = 13
  · rw [if_pos e13]; exact h13 e13
  rw [if_neg e13]
  by_cases e14 : i.1 = 14
  · rw [if_pos e14]; exact h14 e14
  rw [if_neg e14]
  by_cases e15 : i.1 = 15
  · rw [if_pos e15]; exact h15 e15
  rw [if_neg e15]
  by_cases e16 : i.1 = 16
  · rw [if_pos e16]; exact h16 e16
  rw [if_neg e16]
  exact h17 (by omega)

/-! ### What a state is like -/
def inR (n : Int) : Prop := 0 ≤ n ∧ n ≤ 65535
structure GoodV (c : CodeD) (s : VS) : Prop where
  vlen : s.vars.length = c.2.1.toNat
  vars : ∀ v ∈ s.vars, inR v
  stack : ∀ v ∈ s.stack, inR v
  slen : s.stack.length ≤ 400
  br : s.br ≤ s.steps
  plen : s.pts.length = c.2.2.1.toNat
  pts : ∀ v ∈ s.pts, 0 ≤ v ∧ v ≤ 3
  notes : ∀ v ∈ s.notes, inR v
  nlen : s.notes.length + (if s.done then 1 else 0) ≤ s.steps
  steps : s.steps ≤ 3000
def PostV (p : VS → Prop) : VR → Prop
  | .ok s => p s
  | .err e => e = 2 ∨ e = 20 ∨ e = 21
theorem wrapV_in (n : Int) : inR (wrapV n) := by unfold inR wrapV; omega
theorem truthV_in (b : Bool) : inR (truthV b) := by unfold inR truthV; cases b <;> simp
theorem getD_in {l : List Int} (h : ∀ v ∈ l, inR v) (k : Nat) : inR (l.getD k 0) := by
  rw [List.getD_eq_getElem?_getD]
  cases e : l[k]? with
  | none => exact ⟨Int.le_refl _, by decide⟩
  | some v => exact h v (List.mem_of_getElem? e)
theorem binV_in (op a b : Int) : inR (binV op a b) := by
  unfold binV
  repeat' split
  all_goals first | exact wrapV_in _ | exact truthV_in _
theorem loopV_in {v : Int} (h : inR v) : inR (loopV v) := by unfold inR loopV at *; omega
theorem set_all {p : Int → Prop} {l : List Int} (h : ∀ v ∈ l, p v) {k : Nat} {x : Int} (hx : p x) : ∀ v ∈ l.set k x, p v := fun v hv => by
  rcases List.mem_or_eq_of_mem_set hv with hv | rfl
  · exact h v hv
  · exact hx
theorem app_all {p : Int → Prop} {l : List Int} (h : ∀ v ∈ l, p v) {x : Int} (hx : p x) : ∀ v ∈ l ++ [x], p v := fun v hv => by
  rcases List.mem_append.1 hv with hv | hv
  · exact h v hv
  · rw [List.mem_singleton.1 hv]; exact hx
theorem take_all {p : Int → Prop} {l : List Int} (h : ∀ v ∈ l, p v) {k : Nat} : ∀ v ∈ l.take k, p v := fun v hv => h v (List.mem_of_mem_take hv)
theorem or3 : ∀ a < 4, ∀ b < 4, a ||| b < 4 := by decide
theorem orV_in {p side : Int} (h : 0 ≤ p ∧ p ≤ 3) (k : 0 ≤ side ∧ side ≤ 3) : 0 ≤ orV p side ∧ orV p side ≤ 3 := by
  unfold orV
  have := or3 p.toNat (by omega) side.toNat (by omega)
  omega
theorem getD_pt {l : List Int} (h : ∀ v ∈ l, 0 ≤ v ∧ v ≤ 3) (k : Nat) : 0 ≤ l.getD k 0 ∧ l.getD k 0 ≤ 3 := by
  rw [List.getD_eq_getElem?_getD]
  cases e : l[k]? with
  | none => exact ⟨Int.le_refl _, by decide⟩
  | some v => exact h v (List.mem_of_getElem? e)

theorem start_good {c : CodeD} {inputs : List Int} (h : validV c inputs = true) : GoodV c (startV c inputs) := by
  unfold validV at h
  simp only [Bool.and_eq_true, decide_eq_true_eq, List.all_eq_true] at h
  obtain ⟨⟨⟨⟨h1, h2⟩, h3⟩, h4⟩, h5⟩ := h
  refine ⟨?_, ?_, by simp [startV], by simp [startV], by simp [startV], by simp [startV], ?_, by simp [startV], by simp [startV], by simp [startV]⟩
  · simp [startV]; omega
  · intro v hv
    rcases List.mem_append.1 hv with hv | hv
    · have := h5 v hv; unfold inR; omega
    · rw [(List.mem_replicate.1 hv).2]; exact ⟨Int.le_refl _, by decide⟩
  · intro v hv
    rw [(List.mem_replicate.1 hv).2]; exact ⟨Int.le_refl _, by decide⟩

theorem push_good {c : CodeD} {s : VS} (g : GoodV c s) {v : Int} (hv : inR v) : PostV (GoodV c) (pushV s v) := by
  unfold pushV
  split
  · exact ⟨g.vlen, g.vars, app_all g.stack hv, by simp; omega, g.br, g.plen, g.pts, g.notes, g.nlen, g.steps⟩
  · exact .inl rfl
theorem pop_good {c : CodeD} {s : VS} (g : GoodV c s) : GoodV c (popV s) :=
  ⟨g.vlen, g.vars, take_all g.stack, by have := g.slen; simp [popV]; omega, g.br, g.plen, g.pts, g.notes, g.nlen, g.steps⟩
theorem top_in {c : CodeD} {s : VS} (g : GoodV c s) : inR (topV s) := getD_in g.stack _

theorem exec_good {c : CodeD} {gl : List Int} {i : InsD} {s : VS} (g : GoodV c s) (hd : s.done = false) (hb : s.br < s.steps) (hn : s.notes.length < s.steps) : PostV (GoodV c) (execV gl c.2.2.1 i s) := by
  have h21 : PostV (GoodV c) (.err 21) := .inr (.inr rfl)
  have hsl := g.slen
  refine exec_elim ?_ ?_ ?_ ?_ ?_ ?_ ?_ ?_ ?_ ?_ ?_
  · exact fun _ => push_good g (wrapV_in _)
  · intro _
    by_cases h : inV s i.2.1 = true
    · rw [if_pos h]; exact push_good g (getD_in g.vars _)
    · rw [if_neg h]; exact h21
  · intro _
    by_cases h0 : s.stack.length = 0
    · rw [if_pos h0]; exact h21
    rw [if_neg h0]
    by_cases h : inV s i.2.1 = true
    · rw [if_pos h]; exact ⟨by simp [setV, popV, g.vlen], set_all g.vars (top_in g), take_all g.stack, by simp [popV]; omega, g.br, g.plen, g.pts, g.notes, g.nlen, g.steps⟩
    · rw [if_neg h]; exact h21
  · intro _ _ _ _
    by_cases h0 : s.stack.length < 2
    · rw [if_pos h0]; exact h21
    · rw [if_neg h0]; exact push_good (pop_good (pop_good g)) (binV_in _ _ _)
  · intro _
    by_cases h0 : s.stack.length = 0
    · rw [if_pos h0]; exact h21
    · rw [if_neg h0]; exact push_good (pop_good g) (truthV_in _)
  · intro _
    unfold branchV
    by_cases h0 : s.stack.length = 0
    · rw [if_pos h0]; exact h21
    rw [if_neg h0]
    by_cases h1 : 0 ≤ i.2.2.1 ∧ i.2.2.1 < c.2.2.1
    · rw [if_pos h1]
      have hp : ∀ side : Int, 0 ≤ side ∧ side ≤ 3 → ∀ v ∈ setV s.pts i.2.2.1 (orV (s.pts.getD i.2.2.1.toNat 0) side), 0 ≤ v ∧ v ≤ 3 := fun side hs => set_all g.pts (orV_in (getD_pt g.pts _) hs)
      simp only
      split
      · exact ⟨g.vlen, g.vars, take_all g.stack, by simp [popV]; omega, hb, by simp [setV, g.plen], hp 1 ⟨by decide, by decide⟩, g.notes, g.nlen, g.steps⟩
      · exact ⟨g.vlen, g.vars, take_all g.stack, by simp [popV]; omega, hb, by simp [setV, g.plen], hp 2 ⟨by decide, by decide⟩, g.notes, g.nlen, g.steps⟩
    · rw [if_neg h1]; exact h21
  · exact fun _ => ⟨g.vlen, g.vars, g.stack, g.slen, g.br, g.plen, g.pts, g.notes, g.nlen, g.steps⟩
  · intro _
    by_cases h0 : s.stack.length = 0
    · rw [if_pos h0]; exact h21
    · rw [if_neg h0]; exact ⟨g.vlen, g.vars, take_all g.stack, by simp [popV]; omega, g.br, g.plen, g.pts, app_all g.notes (top_in g), by simp [popV, hd]; omega, g.steps⟩
  · exact fun _ => ⟨g.vlen, g.vars, g.stack, g.slen, g.br, g.plen, g.pts, g.notes, by simp; omega, g.steps⟩
  · exact fun _ => ⟨g.vlen, g.vars, g.stack, g.slen, g.br, g.plen, g.pts, g.notes, by simp; omega, g.steps⟩
  · intro _
    by_cases h : inV s i.2.1 = true
    · rw [if_pos h]; exact ⟨by simp [setV, g.vlen], set_all g.vars (loopV_in (getD_in g.vars _)), g.stack, g.slen, g.br, g.plen, g.pts, g.notes, g.nlen, g.steps⟩
    · rw [if_neg h]; exact h21
theorem push_steps {s t : VS} {v : Int} (h : pushV s v = .ok t) : t.steps = s.steps := by
  unfold pushV at h
  split at h
  · cases h; rfl
  · cases h
def StepsV (n : Nat) : VR → Prop
  | .ok t => t.steps = n
  | .err _ => True
theorem push_stepsV {s : VS} {v : Int} : StepsV s.steps (pushV s v) := by
  unfold pushV
  split <;> first | rfl | trivial
theorem exec_stepsV {gl : List Int} {pts : Int} {i : InsD} {s : VS} : StepsV s.steps (execV gl pts i s) := by
  refine exec_elim ?_ ?_ ?_ ?_ ?_ ?_ ?_ ?_ ?_ ?_ ?_
  all_goals (intros; first | rfl | exact push_stepsV | (split <;> first | trivial | rfl | exact push_stepsV | exact (push_stepsV (s := popV _)) | (split <;> first | trivial | rfl)) | (unfold branchV; repeat' (first | trivial | rfl | split)))
theorem exec_steps {gl : List Int} {pts : Int} {i : InsD} {s : VS} : ∀ t, execV gl pts i s = .ok t → t.steps = s.steps := by
  intro t h
  have := exec_stepsV (gl := gl) (pts := pts) (i := i) (s := s)
  rw [h] at this
  exact this
theorem step_good {c : CodeD} {gl : List Int} {s : VS} (g : GoodV c s) (hd : s.done = false) : PostV (fun t => GoodV c t ∧ t.steps = s.steps + 1) (stepV c gl s) := by
  unfold stepV
  split
  · split
    · split
      · have g' : GoodV c (nextV s) := ⟨g.vlen, g.vars, g.stack, g.slen, by have := g.br; show s.br ≤ s.steps + 1; omega, g.plen, g.pts, g.notes, Nat.le_succ_of_le g.nlen, by show s.steps + 1 ≤ 3000; omega⟩
        have hn := g.nlen
        rw [hd] at hn
        have h := exec_good (gl := gl) (i := insV c s.pc) g' hd (by have := g.br; show s.br < s.steps + 1; omega) (by show s.notes.length < s.steps + 1; simp at hn; omega)
        have hs := exec_steps (gl := gl) (pts := c.2.2.1) (i := insV c s.pc) (s := nextV s)
        cases e : execV gl c.2.2.1 (insV c s.pc) (nextV s) with
        | ok t => rw [e] at h hs; exact ⟨h, hs t rfl⟩
        | err k => rw [e] at h; exact h
      · exact .inr (.inr rfl)
    · exact .inr (.inr rfl)
  · exact .inr (.inl rfl)
theorem run_good {c : CodeD} {gl : List Int} : ∀ (f : Nat) (s : VS), GoodV c s → 3001 ≤ f + s.steps → PostV (fun t => GoodV c t ∧ t.done = true) (runV c gl f s)
  | 0, s, g, h => by have := g.steps; omega
  | f + 1, s, g, h => by
    rw [runV]
    cases hd : s.done with
    | true => exact ⟨g, hd⟩
    | false =>
      have hs := step_good (gl := gl) g hd
      rw [if_neg (by simp)]
      cases e : stepV c gl s with
      | ok t => rw [e] at hs; exact run_good f t hs.1 (by have := hs.2; omega)
      | err k => rw [e] at hs; exact hs

/-! ### Glitches -/
theorem exec_glitch {gl gl' : List Int} {pts : Int} {i : InsD} {s : VS} (h : gl.contains (s.br : Int) = gl'.contains (s.br : Int)) : execV gl pts i s = execV gl' pts i s := by
  unfold execV branchV; rw [h]
theorem step_glitch {c : CodeD} {gl gl' : List Int} {s : VS} (h : gl.contains (s.br : Int) = gl'.contains (s.br : Int)) : stepV c gl s = stepV c gl' s := by
  unfold stepV; rw [exec_glitch (s := nextV s) h]
/-- All glitches alike: the same execution. -/
theorem run_glitch {c : CodeD} {gl gl' : List Int} (h : ∀ k : Nat, k < 3000 → gl.contains (k : Int) = gl'.contains (k : Int)) : ∀ (f : Nat) (s : VS), GoodV c s → runV c gl f s = runV c gl' f s
  | 0, _, _ => rfl
  | f + 1, s, g => by
    rw [runV, runV]
    cases hd : s.done with
    | true => rfl
    | false =>
      rw [if_neg (by simp), if_neg (by simp)]
      have hs := step_good (gl := gl) g hd
      have e : stepV c gl s = stepV c gl' s := by
        by_cases h3 : s.steps < 3000
        · exact step_glitch (h s.br (by have := g.br; omega))
        · unfold stepV; rw [if_neg h3, if_neg h3]
      rw [← e]
      cases e2 : stepV c gl s with
      | ok t => rw [e2] at hs; exact run_glitch h f t hs.1
      | err k => rfl
/-- The glitches below the number of steps alike: the same end. -/
theorem run_steps {c : CodeD} {gl : List Int} : ∀ (f : Nat) (s t : VS), GoodV c s → runV c gl f s = .ok t → s.steps ≤ t.steps
  | 0, s, t, _, h => by cases h; exact Nat.le_refl _
  | f + 1, s, t, g, h => by
    rw [runV] at h
    cases hd : s.done with
    | true => rw [hd] at h; cases h; exact Nat.le_refl _
    | false =>
      rw [hd, if_neg (by simp)] at h
      have hs := step_good (gl := gl) g hd
      cases e : stepV c gl s with
      | ok u => rw [e] at hs h; have := run_steps f u t hs.1 h; have := hs.2; omega
      | err k => rw [e] at h; cases h
theorem run_glitch_ok {c : CodeD} {gl gl' : List Int} : ∀ (f : Nat) (s t : VS), GoodV c s → (∀ k : Nat, k < t.steps → gl.contains (k : Int) = gl'.contains (k : Int)) → runV c gl f s = .ok t → runV c gl' f s = .ok t
  | 0, _, _, _, _, h => h
  | f + 1, s, t, g, hk, h => by
    have hle := run_steps _ s t g h
    rw [runV] at h ⊢
    cases hd : s.done with
    | true => rw [hd] at h; exact h
    | false =>
      rw [hd, if_neg (by simp)] at h
      rw [if_neg (by simp)]
      have hs := step_good (gl := gl) g hd
      cases e : stepV c gl s with
      | ok u =>
        rw [e] at hs h
        have h1 := run_steps f u t hs.1 h
        have h2 := hs.2
        rw [← step_glitch (hk s.br (by have := g.br; omega)), e]
        exact run_glitch_ok f u t hs.1 hk h
      | err k => rw [e] at h; cases h
end Go.Proofs.YtmbdbfdlbbkclaaDoor

/- Package vm: plain mathematics: code that is not reached, arithmetic, loops. -/
namespace Go.Proofs.YtmbdbfdlbbkclaaDoor
set_option linter.unusedSimpArgs false
set_option linter.unusedVariables false
open Go.RowKit Go.Sl

/-- The same but for variables behind the others. -/
structure Ext (s t : VS) : Prop where
  pc : t.pc = s.pc
  vars : ∃ z, t.vars = s.vars ++ z
  stack : t.stack = s.stack
  br : t.br = s.br
  pts : t.pts = s.pts
  notes : t.notes = s.notes
  fin : t.fin = s.fin
  steps : t.steps = s.steps
  done : t.done = s.done
theorem Ext.inn {s t : VS} (h : Ext s t) {a : Int} (k : inV s a = true) : inV t a = true ∧ a.toNat < s.vars.length ∧ t.vars.getD a.toNat 0 = s.vars.getD a.toNat 0 ∧ ∀ x, ∃ z, setV t.vars a x = setV s.vars a x ++ z := by
  obtain ⟨z, hz⟩ := h.vars
  unfold inV at *
  simp only [decide_eq_true_eq] at *
  have hlt : a.toNat < s.vars.length := by omega
  refine ⟨by rw [hz, List.length_append]; omega, hlt, ?_, fun x => ⟨z, ?_⟩⟩
  · rw [List.getD_eq_getElem?_getD, List.getD_eq_getElem?_getD, hz, List.getElem?_append_left hlt]
  · unfold setV; rw [hz, List.set_append_left _ _ hlt]
theorem Ext.top {s t : VS} (h : Ext s t) : topV t = topV s := by unfold topV; rw [h.stack]
theorem Ext.pop {s t : VS} (h : Ext s t) : Ext (popV s) (popV t) := ⟨h.pc, h.vars, by simp only [popV, h.stack], h.br, h.pts, h.notes, h.fin, h.steps, h.done⟩
theorem Ext.push {s t u : VS} (h : Ext s t) {v : Int} (k : pushV s v = .ok u) : ∃ u', pushV t v = .ok u' ∧ Ext u u' := by
  unfold pushV at *
  rw [h.stack]
  split at k
  · cases k
    rename_i hh
    rw [if_pos hh]
    exact ⟨_, rfl, h.pc, h.vars, by simp only [h.stack], h.br, h.pts, h.notes, h.fin, h.steps, h.done⟩
  · cases k
def ExtR (r r' : VR) : Prop := ∀ u, r = .ok u → ∃ u', r' = .ok u' ∧ Ext u u'
theorem ExtR.err {e : Nat} {r : VR} : ExtR (.err e) r := fun _ h => by cases h
theorem ExtR.ok {u u' : VS} (h : Ext u u') : ExtR (.ok u) (.ok u') := fun _ e => by cases e; exact ⟨_, rfl, h⟩
theorem Ext.pushR {s t : VS} (h : Ext s t) {v : Int} : ExtR (pushV s v) (pushV t v) := fun _ k => h.push k
theorem execV_1 {gl : List Int} {pts : Int} {i : InsD} {s : VS} (e : i.1 = 1) : execV gl pts i s = (pushV s (wrapV i.2.1)) := by
  obtain ⟨op, a, b, u⟩ := i
  obtain rfl : op = 1 := e
  rfl
theorem execV_2 {gl : List Int} {pts : Int} {i : InsD} {s : VS} (e : i.1 = 2) : execV gl pts i s = (if inV s i.2.1 then pushV s (s.vars.getD i.2.1.toNat 0) else .err 21) := by
  obtain ⟨op, a, b, u⟩ := i
  obtain rfl : op = 2 := e
  rfl
theorem execV_3 {gl : List Int} {pts : Int} {i : InsD} {s : VS} (e : i.1 = 3) : execV gl pts i s = (if s.stack.length = 0 then .err 21 else if inV s i.2.1 then .ok { popV s with vars := setV s.vars i.2.1 (topV s) } else .err 21) := by
  obtain ⟨op, a, b, u⟩ := i
  obtain rfl : op = 3 := e
  rfl
theorem execV_11 {gl : List Int} {pts : Int} {i : InsD} {s : VS} (e : i.1 = 11) : execV gl pts i s = (if s.stack.length = 0 then .err 21 else pushV (popV s) (truthV (decide (topV s = 0)))) := by
  obtain ⟨op, a, b, u⟩ := i
  obtain rfl : op = 11 := e
  rfl
theorem execV_12 {gl : List Int} {pts : Int} {i : InsD} {s : VS} (e : i.1 = 12) : execV gl pts i s = (branchV gl pts i s) := by
  obtain ⟨op, a, b, u⟩ := i
  obtain rfl : op = 12 := e
  rfl
theorem execV_13 {gl : List Int} {pts : Int} {i : InsD} {s : VS} (e : i.1 = 13) : execV gl pts i s = (.ok { s with pc := i.2.1 }) := by
  obtain ⟨op, a, b, u⟩ := i
  obtain rfl : op = 13 := e
  rfl
theorem execV_14 {gl : List Int} {pts : Int} {i : InsD} {s : VS} (e : i.1 = 14) : execV gl pts i s = (if s.stack.length = 0 then .err 21 else .ok { popV s with notes := s.notes ++ [topV s] }) := by
  obtain ⟨op, a, b, u⟩ := i
  obtain rfl : op = 14 := e
  rfl
theorem execV_15 {gl : List Int} {pts : Int} {i : InsD} {s : VS} (e : i.1 = 15) : execV gl pts i s = (.ok { s with fin := i.2.1, done := true }) := by
  obtain ⟨op, a, b, u⟩ := i
  obtain rfl : op = 15 := e
  rfl
theorem execV_16 {gl : List Int} {pts : Int} {i : InsD} {s : VS} (e : i.1 = 16) : execV gl pts i s = (.ok { s with done := true }) := by
  obtain ⟨op, a, b, u⟩ := i
  obtain rfl : op = 16 := e
  rfl
theorem execV_4 {gl : List Int} {pts : Int} {i : InsD} {s : VS} (e1 : i.1 ≠ 1) (e2 : i.1 ≠ 2) (e3 : i.1 ≠ 3) (e : i.1 ≤ 10) : execV gl pts i s = (if s.stack.length < 2 then .err 21 else pushV (popV (popV s)) (binV i.1 (topV (popV s)) (topV s))) := by
  unfold execV; rw [if_neg e1, if_neg e2, if_neg e3, if_pos e]
theorem execV_17 {gl : List Int} {pts : Int} {i : InsD} {s : VS} (e : 16 < i.1) : execV gl pts i s = (if inV s i.2.1 then .ok { s with vars := setV s.vars i.2.1 (loopV (s.vars.getD i.2.1.toNat 0)), pc := if 0 < loopV (s.vars.getD i.2.1.toNat 0) then i.2.2.1 else s.pc } else .err 21) := by
  have a1 : i.1 ≠ 1 := by omega
  have a2 : i.1 ≠ 2 := by omega
  have a3 : i.1 ≠ 3 := by omega
  have a4 : ¬ i.1 ≤ 10 := by omega
  have a11 : i.1 ≠ 11 := by omega
  have a12 : i.1 ≠ 12 := by omega
  have a13 : i.1 ≠ 13 := by omega
  have a14 : i.1 ≠ 14 := by omega
  have a15 : i.1 ≠ 15 := by omega
  have a16 : i.1 ≠ 16 := by omega
  unfold execV; rw [if_neg a1, if_neg a2, if_neg a3, if_neg a4, if_neg a11, if_neg a12, if_neg a13, if_neg a14, if_neg a15, if_neg a16]
theorem Ext.execR {gl : List Int} {pts : Int} {i : InsD} {s t : VS} (h : Ext s t) : ExtR (execV gl pts i s) (execV gl pts i t) := by
  refine exec_elim (m := fun r => ExtR r (execV gl pts i t)) ?_ ?_ ?_ ?_ ?_ ?_ ?_ ?_ ?_ ?_ ?_
  · intro e
    rw [execV_1 e]
    exact h.pushR
  · intro e
    rw [execV_2 e]
    by_cases hi : inV s i.2.1 = true
    · obtain ⟨a, _, b, _⟩ := h.inn hi
      rw [if_pos hi, if_pos a, b]
      exact h.pushR
    · rw [if_neg hi]; exact ExtR.err
  · intro e
    rw [execV_3 e]
    by_cases h0 : s.stack.length = 0
    · rw [if_pos h0]; exact ExtR.err
    rw [if_neg h0, if_neg (show ¬ t.stack.length = 0 by rw [h.stack]; exact h0)]
    by_cases hi : inV s i.2.1 = true
    · obtain ⟨a, _, _, d⟩ := h.inn hi
      rw [if_pos hi, if_pos a]
      exact ExtR.ok ⟨h.pc, by rw [h.top]; exact d _, by simp only [popV, h.stack], h.br, h.pts, h.notes, h.fin, h.steps, h.done⟩
    · rw [if_neg hi]; exact ExtR.err
  · intro e1 e2 e3 e
    rw [execV_4 e1 e2 e3 e]
    by_cases h0 : s.stack.length < 2
    · rw [if_pos h0]; exact ExtR.err
    · rw [if_neg h0, if_neg (show ¬ t.stack.length < 2 by rw [h.stack]; exact h0), h.top, h.pop.top]
      exact h.pop.pop.pushR
  · intro e
    rw [execV_11 e]
    by_cases h0 : s.stack.length = 0
    · rw [if_pos h0]; exact ExtR.err
    · rw [if_neg h0, if_neg (show ¬ t.stack.length = 0 by rw [h.stack]; exact h0), h.top]
      exact h.pop.pushR
  · intro e
    rw [execV_12 e]
    unfold branchV
    rw [h.stack, h.top, h.br, h.pts]
    by_cases h0 : s.stack.length = 0
    · rw [if_pos h0]; exact ExtR.err
    rw [if_neg h0, if_neg h0]
    by_cases h1 : 0 ≤ i.2.2.1 ∧ i.2.2.1 < pts
    · rw [if_pos h1, if_pos h1]
      simp only
      split
      · exact ExtR.ok ⟨h.pc, h.vars, by simp only [popV, h.stack], rfl, rfl, h.notes, h.fin, h.steps, h.done⟩
      · exact ExtR.ok ⟨rfl, h.vars, by simp only [popV, h.stack], rfl, rfl, h.notes, h.fin, h.steps, h.done⟩
    · rw [if_neg h1]; exact ExtR.err
  · intro e
    rw [execV_13 e]
    exact ExtR.ok ⟨rfl, h.vars, h.stack, h.br, h.pts, h.notes, h.fin, h.steps, h.done⟩
  · intro e
    rw [execV_14 e]
    by_cases h0 : s.stack.length = 0
    · rw [if_pos h0]; exact ExtR.err
    · rw [if_neg h0, if_neg (show ¬ t.stack.length = 0 by rw [h.stack]; exact h0)]
      exact ExtR.ok ⟨h.pc, h.vars, by simp only [popV, h.stack], h.br, h.pts, by simp only [h.notes, h.top], h.fin, h.steps, h.done⟩
  · intro e
    rw [execV_15 e]
    exact ExtR.ok ⟨h.pc, h.vars, h.stack, h.br, h.pts, h.notes, rfl, h.steps, rfl⟩
  · intro e
    rw [execV_16 e]
    exact ExtR.ok ⟨h.pc, h.vars, h.stack, h.br, h.pts, h.notes, h.fin, h.steps, rfl⟩
  · intro e
    rw [execV_17 e]
    by_cases hi : inV s i.2.1 = true
    · obtain ⟨a, _, b, d⟩ := h.inn hi
      rw [if_pos hi, if_pos a]
      exact ExtR.ok ⟨by simp only [b, h.pc], by rw [b]; exact d _, h.stack, h.br, h.pts, h.notes, h.fin, h.steps, h.done⟩
    · rw [if_neg hi]; exact ExtR.err
theorem Ext.exec {gl : List Int} {pts : Int} {i : InsD} {s t u : VS} (h : Ext s t) (k : execV gl pts i s = .ok u) : ∃ u', execV gl pts i t = .ok u' ∧ Ext u u' := h.execR u k

/-- The code with more behind it. -/
structure More (c d : CodeD) : Prop where
  ins : ∃ z, d.1 = c.1 ++ z
  pts : d.2.2.1 = c.2.2.1
theorem Ext.step {c d : CodeD} {gl : List Int} {s t u : VS} (m : More c d) (h : Ext s t) (k : stepV c gl s = .ok u) : ∃ u', stepV d gl t = .ok u' ∧ Ext u u' := by
  obtain ⟨z, hz⟩ := m.ins
  unfold stepV at *
  rw [h.steps, h.pc, m.pts]
  split at k
  · rename_i h1
    rw [if_pos h1]
    split at k
    · rename_i h2
      have hi : insV d s.pc = insV c s.pc := by
        unfold insV
        rw [List.getD_eq_getElem?_getD, List.getD_eq_getElem?_getD, hz, List.getElem?_append_left (by omega)]
      rw [if_pos (by rw [hz, List.length_append]; omega), hi]
      split at k
      · rename_i h3
        rw [if_pos h3]
        refine Ext.exec (s := nextV s) ⟨?_, h.vars, h.stack, h.br, h.pts, h.notes, h.fin, ?_, h.done⟩ k
        · simp only [nextV, h.pc]
        · simp only [nextV, h.steps]
      · cases k
    · cases k
  · cases k
theorem Ext.run {c d : CodeD} {gl : List Int} (m : More c d) : ∀ (f : Nat) (s t u : VS), Ext s t → runV c gl f s = .ok u → ∃ u', runV d gl f t = .ok u' ∧ Ext u u'
  | 0, s, t, u, h, k => by cases k; exact ⟨t, rfl, h⟩
  | f + 1, s, t, u, h, k => by
    rw [runV] at k ⊢
    rw [h.done]
    cases hd : s.done with
    | true => rw [hd] at k; cases k; exact ⟨t, rfl, h⟩
    | false =>
      rw [hd, if_neg (by simp)] at k
      rw [if_neg (by simp)]
      cases e : stepV c gl s with
      | ok s' =>
        rw [e] at k
        obtain ⟨t', e', h'⟩ := h.step m e
        rw [e']
        exact Ext.run m f s' t' u h' k
      | err n => rw [e] at k; cases k
theorem Ext.out {s t : VS} (h : Ext s t) : outV t = outV s := by unfold outV; rw [h.pts, h.notes, h.fin, h.steps]

theorem vm_ok {c : CodeD} {inputs gl : List Int} (h : (vmM c inputs gl).2 = 0) : validV c inputs = true ∧ ∃ s, runV c gl 3001 (startV c inputs) = .ok s ∧ vmM c inputs gl = (outV s, 0) := by
  unfold vmM at h ⊢
  split at h
  · rename_i hv
    refine ⟨hv, ?_⟩
    rw [if_pos hv]
    have hg := run_good (gl := gl) 3001 _ (start_good hv) (by simp [startV])
    cases e : runV c gl 3001 (startV c inputs) with
    | ok s => exact ⟨s, rfl, rfl⟩
    | err k =>
      rw [e] at h hg
      rcases hg with rfl | rfl | rfl <;> cases h
  · cases h
theorem vm_err {c : CodeD} {inputs gl : List Int} (h : (vmM c inputs gl).2 ≠ 0) : (vmM c inputs gl).1 = out0 := by
  unfold vmM at h ⊢
  split
  · rename_i hv
    rw [if_pos hv] at h
    cases e : runV c gl 3001 (startV c inputs) with
    | ok s => rw [e] at h; simp at h
    | err k => rfl
  · rfl
/-- What the law 'outcome is valid' asks. -/
theorem vm_valid {c : CodeD} {inputs gl : List Int} (h : (vmM c inputs gl).2 = 0) :
    (∀ v ∈ (vmM c inputs gl).1.1, 0 ≤ v ∧ v ≤ 3) ∧ (∀ v ∈ (vmM c inputs gl).1.2.1, 0 ≤ v ∧ v < 65536) ∧ ((vmM c inputs gl).1.1.length : Int) = c.2.2.1 ∧ 1 ≤ (vmM c inputs gl).1.2.2.2.1 ∧ (vmM c inputs gl).1.2.2.2.1 ≤ 3000 ∧ ((vmM c inputs gl).1.2.1.length : Int) < (vmM c inputs gl).1.2.2.2.1 := by
  obtain ⟨hv, s, hr, he⟩ := vm_ok h
  have hg := run_good (gl := gl) 3001 _ (start_good hv) (by simp [startV])
  rw [hr] at hg
  obtain ⟨g, hd⟩ := hg
  rw [he]
  have hn := g.nlen
  rw [hd] at hn
  have hp : 0 ≤ c.2.2.1 := by
    unfold validV at hv
    simp only [Bool.and_eq_true, decide_eq_true_eq] at hv
    exact hv.1.1.1.1
  have hpl := g.plen
  have hst := g.steps
  simp only [if_true] at hn
  refine ⟨g.pts, fun v hv => ?_, ?_, ?_, ?_, ?_⟩
  · have := g.notes v hv; unfold inR at this; omega
  · show (s.pts.length : Int) = _; omega
  · show (1 : Int) ≤ (s.steps : Int); omega
  · show (s.steps : Int) ≤ 3000; omega
  · show (s.notes.length : Int) < (s.steps : Int); omega
/-- Glitches beyond the end. -/
theorem vm_glitch {c : CodeD} {inputs gl : List Int} {far : Nat} {more : List Int} (hm : more = gl ++ gl ++ [-1 - (far : Int), 3000 + (far : Int)] ++ (if (vmM c inputs gl).2 = 0 then [(vmM c inputs gl).1.2.2.2.1 + (far : Int)] else [])) :
    vmM c inputs more = vmM c inputs gl := by
  have hc : ∀ k : Nat, k < 3000 → ((vmM c inputs gl).2 = 0 → (k : Int) < (vmM c inputs gl).1.2.2.2.1) → gl.contains (k : Int) = more.contains (k : Int) := fun k hk hs => by
    rw [hm]
    have e1 : ((k : Int) == -1 - (far : Int)) = false := by simp; omega
    have e2 : ((k : Int) == 3000 + (far : Int)) = false := by simp; omega
    simp only [List.contains_append, List.contains_cons, List.contains_nil, e1, e2, Bool.or_false, Bool.or_self]
    split
    · rename_i h0
      have := hs h0
      have e3 : ((k : Int) == (vmM c inputs gl).1.2.2.2.1 + (far : Int)) = false := by simp; omega
      simp only [List.contains_cons, List.contains_nil, e3, Bool.or_false, Bool.or_self]
    · simp
  by_cases hv : validV c inputs = true
  · by_cases h0 : (vmM c inputs gl).2 = 0
    · obtain ⟨_, s, hr, he⟩ := vm_ok h0
      have hg := run_good (gl := gl) 3001 _ (start_good hv) (by simp [startV])
      rw [hr] at hg
      have hst := hg.1.steps
      have := run_glitch_ok (gl' := more) 3001 _ s (start_good hv) (fun k hk => hc k (by omega) fun _ => by rw [he]; show (k : Int) < (s.steps : Int); omega) hr
      rw [he]
      unfold vmM
      rw [if_pos hv, this]
    · have := run_glitch (gl := gl) (gl' := more) (fun k hk => hc k hk fun h => absurd h h0) 3001 _ (start_good hv)
      unfold vmM
      rw [if_pos hv, this, if_pos hv]
  · unfold vmM
    rw [if_neg hv, if_neg hv]
/-- Code that is not reached. -/
theorem vm_more {c d : CodeD} {inputs gl : List Int} (m : More c d) (h1 : c.2.1 ≤ d.2.1) (h2 : d.2.1 ≤ 400) (h : (vmM c inputs gl).2 = 0) : vmM d inputs gl = vmM c inputs gl := by
  obtain ⟨hv, s, hr, he⟩ := vm_ok h
  have hv' : validV d inputs = true := by
    unfold validV at hv ⊢
    rw [m.pts]
    simp only [Bool.and_eq_true, decide_eq_true_eq] at hv ⊢
    exact ⟨⟨⟨hv.1.1.1, by omega⟩, h2⟩, hv.2⟩
  have hl : (inputs.length : Int) ≤ c.2.1 := by
    unfold validV at hv
    simp only [Bool.and_eq_true, decide_eq_true_eq] at hv
    exact hv.1.1.2
  have h0 : Ext (startV c inputs) (startV d inputs) := by
    refine ⟨rfl, ⟨List.replicate (d.2.1.toNat - c.2.1.toNat) 0, ?_⟩, rfl, rfl, ?_, rfl, rfl, rfl, rfl⟩
    · unfold startV
      simp only
      rw [List.append_assoc, List.replicate_append_replicate]
      congr 2
      omega
    · unfold startV
      simp only
      rw [m.pts]
  obtain ⟨t, ht, hx⟩ := Ext.run m 3001 _ _ s h0 hr
  rw [he]
  unfold vmM
  rw [if_pos hv', ht]
  show (outV t, 0) = _
  rw [hx.out]
end Go.Proofs.YtmbdbfdlbbkclaaDoor

/- Package vm: plain mathematics: arithmetic, loops, the examples of the sanity function. -/
namespace Go.Proofs.YtmbdbfdlbbkclaaDoor
set_option linter.unusedSimpArgs false
set_option linter.unusedVariables false
open Go.RowKit Go.Sl

abbrev insD (op a b : Int) : InsD := (op, a, b, ())
abbrev arithC : CodeD := ([4, 5, 6, 7, 8, 9, 10].flatMap (fun op => [insD 2 0 0, insD 2 1 0, insD op 0 0, insD 14 0 0]) ++ [insD 2 0 0, insD 11 0 0, insD 14 0 0, insD 16 0 0], 2, 0, ())
def arithN (a b : Int) : List Int := [wrapV (a + b), wrapV (a - b), wrapV (a * b), truthV (decide (a < b)), truthV (decide (a = b)), truthV (decide (a ≠ 0) && decide (b ≠ 0)), truthV (decide (a ≠ 0) || decide (b ≠ 0)), truthV (decide (a = 0))]
theorem vm_arith {a b : Int} (ha : inR a) (hb : inR b) : vmM arithC [a, b] [] = (([], arithN a b, 0, 32, ()), 0) := by
  have hv : validV arithC [a, b] = true := by
    unfold validV inR at *
    simp [arithC]
    omega
  unfold vmM
  rw [if_pos hv]
  have h : runV arithC [] 3001 (startV arithC [a, b]) = .ok ⟨32, [a, b], [], 0, [], arithN a b, 0, 32, true⟩ := by kernel_rfl
  rw [h]
  rfl

abbrev loopC : CodeD := ([insD 1 9 0, insD 14 0 0, insD 17 0 0, insD 15 5 0], 1, 0, ())
def loopS (k : Int) (l : List Int) (n : Nat) : VS := ⟨0, [k], [], 0, [], l, 0, n, false⟩
theorem loop_1 {k : Int} {l : List Int} {n : Nat} (h : n < 3000) : stepV loopC [] (loopS k l n) = .ok ⟨1, [k], [9], 0, [], l, 0, n + 1, false⟩ := by
  unfold stepV; rw [if_pos (by exact h)]; rfl
theorem loop_2 {k : Int} {l : List Int} {n : Nat} (h : n < 3000) : stepV loopC [] ⟨1, [k], [9], 0, [], l, 0, n, false⟩ = .ok ⟨2, [k], [], 0, [], l ++ [9], 0, n + 1, false⟩ := by
  unfold stepV; rw [if_pos (by exact h)]; rfl
theorem loop_3 {k : Int} {l : List Int} {n : Nat} (h : n < 3000) : stepV loopC [] ⟨2, [k], [], 0, [], l, 0, n, false⟩ = .ok ⟨if 0 < loopV k then 0 else 3, [loopV k], [], 0, [], l, 0, n + 1, false⟩ := by
  unfold stepV; rw [if_pos (by exact h)]; rfl
theorem loop_4 {k : Int} {l : List Int} {n : Nat} (h : n < 3000) : stepV loopC [] ⟨3, [k], [], 0, [], l, 0, n, false⟩ = .ok ⟨4, [k], [], 0, [], l, 5, n + 1, true⟩ := by
  unfold stepV; rw [if_pos (by exact h)]; rfl
theorem run_go {c : CodeD} {gl : List Int} {f : Nat} {s t : VS} (hd : s.done = false) (h : stepV c gl s = .ok t) : runV c gl (f + 1) s = runV c gl f t := by
  rw [runV, hd, if_neg (by simp), h]; rfl
theorem loop_round {k : Int} {l : List Int} {n f : Nat} (h : n + 3 ≤ 3000) : runV loopC [] (f + 3) (loopS k l n) = runV loopC [] f ⟨if 0 < loopV k then 0 else 3, [loopV k], [], 0, [], l ++ [9], 0, n + 3, false⟩ := by
  rw [run_go rfl (loop_1 (by omega)), run_go rfl (loop_2 (by omega)), run_go rfl (loop_3 (by omega))]
theorem loop_run : ∀ (m : Nat) (k : Int) (l : List Int) (n f : Nat), (k = (m : Int) + 1 ∨ (m = 0 ∧ k = 0)) → n + 3 * m + 4 ≤ 3000 → 3 * m + 5 ≤ f → ∃ v, runV loopC [] f (loopS k l n) = .ok ⟨4, [v], [], 0, [], l ++ List.replicate (m + 1) 9, 5, n + 3 * m + 4, true⟩
  | 0, k, l, n, f, hk, hn, hf => by
    have h0 : loopV k = 0 := by unfold loopV; omega
    obtain ⟨g, rfl⟩ : ∃ g, f = g + 2 + 3 := ⟨f - 5, by omega⟩
    rw [loop_round (by omega), h0, if_neg (by omega), run_go rfl (loop_4 (by omega))]
    exact ⟨0, rfl⟩
  | m + 1, k, l, n, f, hk, hn, hf => by
    have hk' : k = (m : Int) + 2 := by omega
    have h1 : loopV k = (m : Int) + 1 := by unfold loopV; omega
    obtain ⟨g, rfl⟩ : ∃ g, f = g + 3 := ⟨f - 3, by omega⟩
    rw [loop_round (by omega), h1, if_pos (by omega)]
    obtain ⟨v, hv⟩ := loop_run m ((m : Int) + 1) (l ++ [9]) (n + 3) g (.inl rfl) (by omega) (by omega)
    refine ⟨v, ?_⟩
    have e : loopS ((m : Int) + 1) (l ++ [9]) (n + 3) = ⟨0, [(m : Int) + 1], [], 0, [], l ++ [9], 0, n + 3, false⟩ := rfl
    rw [← e, hv, List.append_assoc, show [(9 : Int)] ++ List.replicate (m + 1) 9 = List.replicate (m + 1 + 1) 9 from rfl]
    congr 2
    omega
theorem vm_loop {k : Nat} (h : k ≤ 300) : vmM loopC [(k : Int)] [] = (([], List.replicate (max k 1) 9, 5, 3 * ((max k 1 : Nat) : Int) + 1, ()), 0) := by
  have hv : validV loopC [(k : Int)] = true := by
    unfold validV
    simp [loopC]
    omega
  obtain ⟨v, hr⟩ := loop_run (k - 1) (k : Int) [] 0 3001 (by omega) (by omega) (by omega)
  unfold vmM
  rw [if_pos hv]
  have e : startV loopC [(k : Int)] = loopS k [] 0 := rfl
  rw [e, hr]
  show (([], [] ++ List.replicate (k - 1 + 1) 9, 5, ((0 + 3 * (k - 1) + 4 : Nat) : Int), ()), 0) = _
  rw [List.nil_append, show k - 1 + 1 = max k 1 by omega, show ((0 + 3 * (k - 1) + 4 : Nat) : Int) = 3 * ((max k 1 : Nat) : Int) + 1 by omega]

abbrev exA : CodeD := ([insD 1 65535 0, insD 1 2 0, insD 4 0 0, insD 14 0 0, insD 16 0 0], 0, 0, ())
abbrev exB : CodeD := ([insD 2 0 0, insD 12 3 0, insD 15 7 0, insD 16 0 0], 1, 1, ())
abbrev ex0 : CodeD := ([], 0, 0, ())
theorem ex_a : vmM exA [] [] = (([], [1], 0, 5, ()), 0) := by kernel_rfl
theorem ex_b : vmM exB [1] [] = (([1], [], 7, 3, ()), 0) := by kernel_rfl
theorem ex_g : vmM exB [1] [0] = (([2], [], 0, 3, ()), 0) := by kernel_rfl
theorem ex_0 : vmM ex0 [] [] = (out0, 21) := by kernel_rfl
theorem ex_n : vmM exB [1, 2] [] = (out0, 1) := by kernel_rfl
end Go.Proofs.YtmbdbfdlbbkclaaDoor

/- Package vm: the small functions of the machine, walked. -/
--@hgp
--@ex0
namespace Go.Proofs.YtmbdbfdlbbkclaaDoor
set_option linter.unusedSimpArgs false
set_option linter.unusedVariables false
open Go.RowKit Go.Sl

abbrev failP (e : Int) : PanicEntry := { v := .iface 49 (.agg #[.int .i64 e]), recovered := false }
abbrev mPtr (b : Nat) : Value := .pointer (some ⟨b, 0, none⟩)
/-- The cells of a machine. -/
abbrev mC (vi vg : Value) (c : CodeD) (s : VS) (vv vs vp vn : Value) : List Value :=
  [vi, .int .i64 c.2.1, .int .i64 c.2.2.1, vg, .int .i64 s.pc, vv, vs, .int .i64 (s.br : Int), vp, vn, .int .i64 s.fin, .int .i64 (s.steps : Int), .bool s.done]
/-- What a machine owns. -/
abbrev MC (b : Nat) (vi vg : Value) (c : CodeD) (s : VS) (vv vs vp vn : Value) (M : List Chunk) : List Chunk :=
  .box b (mC vi vg c s vv vs vp vn) 53 :: .sl vv 3 1 s.vars.length (cF intC s.vars) :: .sl vs 3 1 s.stack.length (cF intC s.stack) :: .sl vp 3 1 s.pts.length (cF intC s.pts) :: .sl vn 3 1 s.notes.length (cF intC s.notes) :: M

theorem getD_at {l : List Int} {i : Nat} (h : i < l.length) : l.getD i 0 = l[i] := by rw [List.getD_eq_getElem?_getD, List.getElem?_eq_getElem h]; rfl
theorem cF_take (xs : List Int) (m : Nat) : (cF intC xs).take (m * 1) = cF intC (xs.take m) := by
  have h : ∀ xs : List Int, cF intC xs = xs.map fun n => .int .i64 n := fun xs => by
    induction xs with
    | nil => rfl
    | cons x xs ih => show _ :: cF intC xs = _; rw [ih]; rfl
  rw [h, h, Nat.mul_one, List.map_take]

theorem need_ok {S M} (w : World) (hst : St S M w) (ok : Bool) (h : ok = true) (e : Int) : Rets Tryd.prog 22 [.bool ok, .int .i64 e] w fun v w' => v = .tuple #[] ∧ St S M w' := by
  unfold Rets
  subst h
  go_enter Tryd.func22, Tryd.ntmps22
  repeat' (first | ((fail_if_success (go_big_may)); (go_step)) | (with_reducible refine Sl.gate rfl ?_; (go_step)))
  go_end0
  exact ⟨_, rfl, rfl, hst⟩
theorem need_no {S M} (w : World) (hst : St S M w) (ok : Bool) (h : ok = false) (e : Int) : Pans Tryd.prog 22 [.bool ok, .int .i64 e] w [failP e] (St S M) := by
  unfold Pans
  subst h
  go_enter Tryd.func22, Tryd.ntmps22
  repeat' (first | ((fail_if_success (go_big_may)); (go_step)) | (with_reducible refine Sl.gate rfl ?_; (go_step)))
  refine s_panic rfl ?_
  exact panic_end rfl hst
theorem wrapV_eq (n : Int) : wrapV n = (wrap64 (n.tmod 65536 + 65536)).tmod 65536 := by
  have h : n.tmod 65536 = n % 65536 ∨ (n % 65536 ≠ 0 ∧ n.tmod 65536 = n % 65536 - 65536) := by
    rcases Int.le_total 0 n with h | h
    · exact .inl (Int.tmod_eq_emod_of_nonneg h)
    · have e : n.tmod 65536 = -((-n).tmod 65536) := by rw [Int.neg_tmod, Int.neg_neg]
      rw [e, Int.tmod_eq_emod_of_nonneg (by omega)]
      omega
  have h3 : wrap64 (n.tmod 65536 + 65536) = n.tmod 65536 + 65536 := by unfold wrap64; omega
  rw [h3, Int.tmod_eq_emod_of_nonneg (by omega)]
  unfold wrapV
  omega
theorem wrap_c {S M} (w : World) (hst : St S M w) (n : Int) : Rets Tryd.prog 57 [.int .i64 n] w fun v w' => v = .int .i64 (wrapV n) ∧ St S M w' := by
  unfold Rets
  go_enter Tryd.func57, Tryd.ntmps57
  repeat' (first | ((fail_if_success (go_big_may)); (go_step)) | (with_reducible refine Sl.gate rfl ?_; (go_step)))
  go_ret
  refine ⟨_, rfl, ?_, hst⟩
  rw [wrapV_eq n]
  rfl
theorem truth_c {S M} (w : World) (hst : St S M w) (b : Bool) : Rets Tryd.prog 60 [.bool b] w fun v w' => v = .int .i64 (truthV b) ∧ St S M w' := by
  unfold Rets
  cases b
  all_goals
    go_enter Tryd.func60, Tryd.ntmps60
    repeat' (((fail_if_success (go_big_may)); (go_step)))
    go_ret
    exact ⟨_, rfl, rfl, hst⟩

section
variable {S : Snap} {M : List Chunk} {X : Chunk}
set_option maxRecDepth 4000 in
set_option maxHeartbeats 1000000 in
theorem push_ok (w : World) (b : Nat) (vi vg : Value) (c : CodeD) (s : VS) (vv vs vp vn : Value) (hst : St S (X :: MC b vi vg c s vv vs vp vn M) w) (v : Int) (h : s.stack.length < 400) :
    Rets Tryd.prog 56 [mPtr b, .int .i64 v] w fun u w' => u = .tuple #[] ∧ ∃ vs', St S (X :: MC b vi vg c { s with stack := s.stack ++ [v] } vv vs' vp vn M) w' := by
  unfold Rets
  simp only [MC, mC] at hst
  have hd : decide ((s.stack.length : Int) < 400) = true := decide_eq_true (by omega)
  have hs1 := sl_onek hst (k := 3) rfl
  go_enter Tryd.func56, Tryd.ntmps56
  repeat' (first | (((with_reducible refine Sl.k_call ?_; ((refine s_call (need_ok _ hst _ dtX 2) inX rfl ?_; clear hst; rintro v w ⟨rfl, hst⟩)))) <;> (try refine nX ?_) <;> (try replace hst := nH hst)) | ((fail_if_success (go_big_may)); (go_step)) | ((first | (with_reducible refine Sl.k_load ?_; (refine s_qt hst (qt_load rfl _ BoxIn.h inX rfl rfl) ?_)) | (with_reducible refine Sl.k_field ?_; (refine s_qt hst (qt_field rfl inX) ?_)) | (with_reducible refine Sl.k_call ?_; (refine s_qt hst (by exact qt_len_own evX SlIn.h inX) ?_))) <;> (try refine nX ?_)) | (with_reducible refine Sl.gate rfl ?_; (go_step)))
  refine s_lit (vs := [.int .i64 v]) hst inX inX rfl rfl (by simp [Value.cells]) rfl (by omega) (by omega) ?_
  clear hst; intro u w hst
  refine nX ?_
  repeat' (fail)
  refine s_append (j := 0) hst evX evX SlIn.h rfl inX inX inX (by simp [Value.cells, Value.oneCell']) (by omega) (by omega) (by decide) ?_
  clear hst; intro v' w hst
  refine nX ?_
  (try replace hst := nH hst)
  replace hst := hst.drop
  have hs2 := sl_onek hst (k := 3) rfl
  repeat' (first | ((fail_if_success (go_big_may)); (go_step)) | (((with_reducible refine Sl.k_field ?_; (refine s_qt hst (qt_field rfl inX) ?_))) <;> (try refine nX ?_)) | (with_reducible refine Sl.gate rfl ?_; (go_step)) | (((((with_reducible refine Sl.k_store ?_; (refine s_st1 hst rfl BoxIn.h evX asX inX (by simp) ?_); clear hst; intro w hst)))) <;> (try refine nX ?_) <;> (try replace hst := nH hst)))
  go_end0
  refine ⟨_, rfl, rfl, v', ?_⟩
  have e : cF intC (s.stack ++ [v]) = cF intC s.stack ++ [.int .i64 v] := by simp [cF, intC]
  have e2 : (s.stack ++ [v]).length = s.stack.length + 1 := by simp
  simp only [MC, mC]
  rw [e, e2]
  exact hst
set_option maxRecDepth 4000 in
set_option maxHeartbeats 1000000 in
theorem push_no (w : World) (b : Nat) (vi vg : Value) (c : CodeD) (s : VS) (vv vs vp vn : Value) (hst : St S (X :: MC b vi vg c s vv vs vp vn M) w) (v : Int) (h : ¬ s.stack.length < 400) (h2 : s.stack.length ≤ 400) :
    Pans Tryd.prog 56 [mPtr b, .int .i64 v] w [failP 2] (St S M) := by
  unfold Pans
  simp only [MC, mC] at hst
  have hd : decide ((s.stack.length : Int) < 400) = false := decide_eq_false (by omega)
  go_enter Tryd.func56, Tryd.ntmps56
  repeat' (first | (with_reducible refine Sl.k_call ?_; ((refine s_callP (need_no _ hst _ dfX 2) inX rfl ?_; clear hst; intro w hst; with_unfolding_all exact ⟨rfl, rfl, hst.drop.drop.drop.drop.drop.drop⟩))) | ((fail_if_success (go_big_may)); (go_step)) | ((first | (with_reducible refine Sl.k_load ?_; (refine s_qt hst (qt_load rfl _ BoxIn.h inX rfl rfl) ?_)) | (with_reducible refine Sl.k_field ?_; (refine s_qt hst (qt_field rfl inX) ?_)) | (with_reducible refine Sl.k_call ?_; (refine s_qt hst (by exact qt_len_own evX SlIn.h inX) ?_))) <;> (try refine nX ?_)) | (with_reducible refine Sl.gate rfl ?_; (go_step)))

set_option maxRecDepth 4000 in
set_option maxHeartbeats 1000000 in
theorem pop_ok (w : World) (b : Nat) (vi vg : Value) (c : CodeD) (s : VS) (vv vs vp vn : Value) (hst : St S (X :: MC b vi vg c s vv vs vp vn M) w) (h : ¬ s.stack.length = 0) (h2 : s.stack.length ≤ 400) :
    Rets Tryd.prog 59 [mPtr b] w fun u w' => u = .int .i64 (topV s) ∧ ∃ vs', St S (X :: MC b vi vg c (popV s) vv vs' vp vn M) w' := by
  unfold Rets
  simp only [MC, mC] at hst
  have hs1 := sl_onek hst (k := 3) rfl
  go_enter Tryd.func59, Tryd.ntmps59
  repeat' (first | (((with_reducible refine Sl.k_call ?_; ((refine s_call (need_ok _ hst _ dtX 21) inX rfl ?_; clear hst; rintro v w ⟨rfl, hst⟩)))) <;> (try refine nX ?_) <;> (try replace hst := nH hst)) | ((fail_if_success (go_big_may)); (go_step)) | ((first | (with_reducible refine Sl.k_load ?_; (first | refine s_qt hst (qt_load rfl _ BoxIn.h inX rfl rfl) ?_ | refine s_qt hst (by exact qt_ldI evX asX SlIn.h inX omX) ?_)) | (with_reducible refine Sl.k_field ?_; (refine s_qt hst (qt_field rfl inX) ?_)) | (with_reducible refine Sl.k_index ?_; (((refine s_ex hst (qt_index_own hst evX SlIn.h rfl inX inX omX omX) ?_); rintro v hp; (try simp only [Int.toNat_natCast, Int.toNat_natCast_add_one, Int.reduceToNat] at hp)))) | (with_reducible refine Sl.k_call ?_; (refine s_qt hst (by exact qt_len_own evX SlIn.h inX) ?_))) <;> (try refine nX ?_)) | (with_reducible refine Sl.gate rfl ?_; (go_step)))
  have hvs := sl_formk hst (k := 3) rfl
  refine s_slice_ownk (k := 3) (m := s.stack.length - 1) hst rfl evX (by rw [show ((s.stack.length - 1 : Nat) : Int) = (s.stack.length : Int) - 1 by omega]; rfl) inX inX (by omega) hvs ?_
  clear hst; intro vs' hst
  (try refine nX ?_)
  (try replace hst := nH hst)
  have hs2 := sl_onek hst (k := 3) rfl
  repeat' (first | ((fail_if_success (go_big_may)); (go_step)) | (((with_reducible refine Sl.k_field ?_; (refine s_qt hst (qt_field rfl inX) ?_))) <;> (try refine nX ?_)) | (with_reducible refine Sl.gate rfl ?_; (go_step)) | (((((with_reducible refine Sl.k_store ?_; (refine s_st1 hst rfl BoxIn.h evX asX inX (by simp) ?_); clear hst; intro w hst)))) <;> (try refine nX ?_) <;> (try replace hst := nH hst)))
  go_ret
  refine ⟨_, rfl, ?_, vs', ?_⟩
  · show Value.int .i64 _ = _
    rw [topV, getD_at (by omega)]
    congr 1
    congr 1
    omega
  · have e : cF intC (s.stack.take (s.stack.length - 1)) = (cF intC s.stack).take ((s.stack.length - 1) * 1) := (cF_take _ _).symm
    have e2 : (s.stack.take (s.stack.length - 1)).length = s.stack.length - 1 := by rw [List.length_take]; omega
    simp only [MC, mC]
    rw [e, e2]
    exact hst
set_option maxRecDepth 4000 in
set_option maxHeartbeats 1000000 in
theorem pop_no (w : World) (b : Nat) (vi vg : Value) (c : CodeD) (s : VS) (vv vs vp vn : Value) (hst : St S (X :: MC b vi vg c s vv vs vp vn M) w) (h : s.stack.length = 0) :
    Pans Tryd.prog 59 [mPtr b] w [failP 21] (St S M) := by
  unfold Pans
  simp only [MC, mC] at hst
  have hs1 := sl_onek hst (k := 3) rfl
  go_enter Tryd.func59, Tryd.ntmps59
  repeat' (first | (with_reducible refine Sl.k_call ?_; ((refine s_callP (need_no _ hst _ dfX 21) inX rfl ?_; clear hst; intro w hst; with_unfolding_all exact ⟨rfl, rfl, hst.drop.drop.drop.drop.drop.drop⟩))) | ((fail_if_success (go_big_may)); (go_step)) | ((first | (with_reducible refine Sl.k_load ?_; (refine s_qt hst (qt_load rfl _ BoxIn.h inX rfl rfl) ?_)) | (with_reducible refine Sl.k_field ?_; (refine s_qt hst (qt_field rfl inX) ?_)) | (with_reducible refine Sl.k_call ?_; (refine s_qt hst (by exact qt_len_own evX SlIn.h inX) ?_))) <;> (try refine nX ?_)) | (with_reducible refine Sl.gate rfl ?_; (go_step)))
set_option maxRecDepth 4000 in
set_option maxHeartbeats 1000000 in
theorem var_ok (w : World) (b : Nat) (vi vg : Value) (c : CodeD) (s : VS) (vv vs vp vn : Value) (hst : St S (X :: MC b vi vg c s vv vs vp vn M) w) (a : Int) (h0 : 0 ≤ a) (h1 : a < s.vars.length) :
    Rets Tryd.prog 58 [mPtr b, .int .i64 a] w fun u w' => PtO vv u (a.toNat * 1) ∧ St S (X :: MC b vi vg c s vv vs vp vn M) w' := by
  unfold Rets
  simp only [MC, mC] at hst
  go_enter Tryd.func58, Tryd.ntmps58
  repeat' (first | (((with_reducible refine Sl.k_guard ?_; ((refine Sl.guard_yes rfl ?_)))) <;> (try refine nX ?_)) | (((with_reducible refine Sl.k_call ?_; ((refine s_call (need_ok _ hst _ dtX 21) inX rfl ?_; clear hst; rintro v w ⟨rfl, hst⟩)))) <;> (try refine nX ?_) <;> (try replace hst := nH hst)) | ((fail_if_success (go_big_may)); (go_step)) | ((first | (with_reducible refine Sl.k_load ?_; (refine s_qt hst (qt_load rfl _ BoxIn.h inX rfl rfl) ?_)) | (with_reducible refine Sl.k_field ?_; (refine s_qt hst (qt_field rfl inX) ?_)) | (with_reducible refine Sl.k_index ?_; (((refine s_ex hst (qt_index_own hst evX SlIn.h rfl inX inX omX omX) ?_); rintro v hp; (try simp only [Int.toNat_natCast, Int.toNat_natCast_add_one, Int.reduceToNat] at hp)))) | (with_reducible refine Sl.k_call ?_; (refine s_qt hst (by exact qt_len_own evX SlIn.h inX) ?_))) <;> (try refine nX ?_)) | (with_reducible refine Sl.gate rfl ?_; (go_step)))
  go_ret
  exact ⟨_, rfl, hp, hst⟩
set_option maxRecDepth 4000 in
set_option maxHeartbeats 1000000 in
theorem var_no (w : World) (b : Nat) (vi vg : Value) (c : CodeD) (s : VS) (vv vs vp vn : Value) (hst : St S (X :: MC b vi vg c s vv vs vp vn M) w) (a : Int) (h : ¬ (0 ≤ a ∧ a < s.vars.length)) :
    Pans Tryd.prog 58 [mPtr b, .int .i64 a] w [failP 21] (St S M) := by
  unfold Pans
  simp only [MC, mC] at hst
  by_cases h0 : 0 ≤ a
  all_goals
    go_enter Tryd.func58, Tryd.ntmps58
    repeat' (first | go_skip | (((with_reducible refine Sl.k_guard ?_; ((refine Sl.guard_yes rfl ?_)))) <;> (try refine nX ?_)) | (with_reducible refine Sl.k_call ?_; ((refine s_callP (need_no _ hst _ dfX 21) inX rfl ?_; clear hst; intro w hst; with_unfolding_all exact ⟨rfl, rfl, hst.drop.drop.drop.drop.drop.drop⟩))) | ((fail_if_success (go_big_may)); (go_step)) | ((first | (with_reducible refine Sl.k_load ?_; (refine s_qt hst (qt_load rfl _ BoxIn.h inX rfl rfl) ?_)) | (with_reducible refine Sl.k_field ?_; (refine s_qt hst (qt_field rfl inX) ?_)) | (with_reducible refine Sl.k_call ?_; (refine s_qt hst (by exact qt_len_own evX SlIn.h inX) ?_))) <;> (try refine nX ?_)) | (with_reducible refine Sl.gate rfl ?_; (go_step)))
end
end Go.Proofs.YtmbdbfdlbbkclaaDoor

/- Package vm: the instructions, walked. -/
--@hgp
--@ex0
namespace Go.Proofs.YtmbdbfdlbbkclaaDoor
set_option linter.unusedSimpArgs false
set_option linter.unusedVariables false
open Go.RowKit Go.Sl

abbrev insVal (i : InsD) : Value := .agg #[.int .i64 i.1, .int .i64 i.2.1, .int .i64 i.2.2.1]
/-- A call does to the machine what the model says. -/
def StepP (S : Snap) (M : List Chunk) (b : Nat) (vi vg : Value) (c : CodeD) (f : FuncId) (args : List Value) (w : World) : VR → Prop
  | .ok s => Rets Tryd.prog f args w fun u w' => u = .tuple #[] ∧ ∃ vv vs vp vn, St S (MC b vi vg c s vv vs vp vn M) w'
  | .err e => Pans Tryd.prog f args w [failP e] (St S M)
section
variable {S : Snap} {M : List Chunk} {b : Nat} {vi vg : Value} {c : CodeD} {s : VS} {vv vs vp vn : Value}
set_option maxRecDepth 4000 in
set_option maxHeartbeats 1000000 in
theorem constant_p (w : World) (hst : St S (MC b vi vg c s vv vs vp vn M) w) (gd : GoodV c s) (i : InsD) {gl : List Int} (hi : i.1 = 1) : StepP S M b vi vg c 46 [mPtr b, insVal i] w (execV gl c.2.2.1 i s) := by
  rw [execV_1 hi]
  unfold pushV
  have hs1 := gd.slen
  simp only [MC, mC] at hst
  by_cases h : s.stack.length < 400
  · rw [if_pos h]
    show Rets _ _ _ _ _
    unfold Rets
    go_enter Tryd.func46, Tryd.ntmps46
    repeat' (first | (((with_reducible refine Sl.k_call ?_; (first | (refine s_call (wrap_c _ hst _) inX rfl ?_; clear hst; rintro v w ⟨rfl, hst⟩) | (refine s_call (push_ok _ b vi vg c s vv vs vp vn hst _ h) inX rfl ?_; clear hst; rintro v w ⟨rfl, vs', hst⟩)))) <;> (try refine nX ?_) <;> (try replace hst := nH hst)) | ((fail_if_success (go_big_may)); (go_step)) | ((first | (with_reducible refine Sl.k_load ?_; (refine s_qt hst (qt_load rfl _ BoxIn.h inX rfl rfl) ?_)) | (with_reducible refine Sl.k_field ?_; (refine s_qt hst (qt_field rfl inX) ?_))) <;> (try refine nX ?_)) | (((((refine s_box hst evX rfl ?_; clear hst; intro bx w hst)))) <;> (try refine nX ?_) <;> (try replace hst := nH hst)))
    go_end0
    exact ⟨_, rfl, rfl, _, _, _, _, hst.drop⟩
  · rw [if_neg h]
    show Pans _ _ _ _ _ _
    unfold Pans
    go_enter Tryd.func46, Tryd.ntmps46
    repeat' (first | (((with_reducible refine Sl.k_call ?_; ((refine s_call (wrap_c _ hst _) inX rfl ?_; clear hst; rintro v w ⟨rfl, hst⟩)))) <;> (try refine nX ?_) <;> (try replace hst := nH hst)) | (with_reducible refine Sl.k_call ?_; ((refine s_callP (push_no _ b vi vg c s vv vs vp vn hst _ h hs1) inX rfl ?_; clear hst; intro w hst; with_unfolding_all exact ⟨rfl, rfl, hst⟩))) | ((fail_if_success (go_big_may)); (go_step)) | ((first | (with_reducible refine Sl.k_load ?_; (refine s_qt hst (qt_load rfl _ BoxIn.h inX rfl rfl) ?_)) | (with_reducible refine Sl.k_field ?_; (refine s_qt hst (qt_field rfl inX) ?_))) <;> (try refine nX ?_)) | (((((refine s_box hst evX rfl ?_; clear hst; intro bx w hst)))) <;> (try refine nX ?_) <;> (try replace hst := nH hst)))
set_option maxRecDepth 4000 in
set_option maxHeartbeats 1000000 in
theorem load_p (w : World) (hst : St S (MC b vi vg c s vv vs vp vn M) w) (gd : GoodV c s) (i : InsD) {gl : List Int} (hi : i.1 = 2) : StepP S M b vi vg c 47 [mPtr b, insVal i] w (execV gl c.2.2.1 i s) := by
  rw [execV_2 hi]
  have hs1 := gd.slen
  simp only [MC, mC] at hst
  by_cases hv : inV s i.2.1 = true
  · rw [if_pos hv]
    obtain ⟨h0, h1⟩ := of_decide_eq_true hv
    have e := getD_at (l := s.vars) (i := i.2.1.toNat) (by omega)
    unfold pushV
    by_cases h : s.stack.length < 400
    · rw [if_pos h]
      show Rets _ _ _ _ _
      unfold Rets
      go_enter Tryd.func47, Tryd.ntmps47
      repeat' (first | (((with_reducible (refine s_nilO evX asX ?_))) <;> (try refine nX ?_)) | (((with_reducible refine Sl.k_call ?_; (first | (refine s_call (var_ok _ b vi vg c s vv vs vp vn hst _ h0 h1) inX rfl ?_; clear hst; rintro v w ⟨hp, hst⟩) | (refine s_call (push_ok _ b vi vg c s vv vs vp vn hst _ h) inX rfl ?_; clear hst; rintro v w ⟨rfl, vs', hst⟩)))) <;> (try refine nX ?_) <;> (try replace hst := nH hst)) | ((fail_if_success (go_big_may)); (go_step)) | ((first | (with_reducible refine Sl.k_load ?_; (first | refine s_qt hst (qt_load rfl _ BoxIn.h inX rfl rfl) ?_ | refine s_qt hst (by exact qt_ldI evX asX SlIn.h inX omX) ?_)) | (with_reducible refine Sl.k_field ?_; (refine s_qt hst (qt_field rfl inX) ?_))) <;> (try refine nX ?_)) | (((((refine s_box hst evX rfl ?_; clear hst; intro bx w hst)))) <;> (try refine nX ?_) <;> (try replace hst := nH hst)))
      go_end0
      exact ⟨_, rfl, rfl, _, _, _, _, by rw [e]; exact hst.drop⟩
    · rw [if_neg h]
      show Pans _ _ _ _ _ _
      unfold Pans
      go_enter Tryd.func47, Tryd.ntmps47
      repeat' (first | (((with_reducible (refine s_nilO evX asX ?_))) <;> (try refine nX ?_)) | (((with_reducible refine Sl.k_call ?_; ((refine s_call (var_ok _ b vi vg c s vv vs vp vn hst _ h0 h1) inX rfl ?_; clear hst; rintro v w ⟨hp, hst⟩)))) <;> (try refine nX ?_) <;> (try replace hst := nH hst)) | (with_reducible refine Sl.k_call ?_; ((refine s_callP (push_no _ b vi vg c s vv vs vp vn hst _ h hs1) inX rfl ?_; clear hst; intro w hst; with_unfolding_all exact ⟨rfl, rfl, hst⟩))) | ((fail_if_success (go_big_may)); (go_step)) | ((first | (with_reducible refine Sl.k_load ?_; (first | refine s_qt hst (qt_load rfl _ BoxIn.h inX rfl rfl) ?_ | refine s_qt hst (by exact qt_ldI evX asX SlIn.h inX omX) ?_)) | (with_reducible refine Sl.k_field ?_; (refine s_qt hst (qt_field rfl inX) ?_))) <;> (try refine nX ?_)) | (((((refine s_box hst evX rfl ?_; clear hst; intro bx w hst)))) <;> (try refine nX ?_) <;> (try replace hst := nH hst)))
  · rw [if_neg hv]
    have hv' : ¬ (0 ≤ i.2.1 ∧ i.2.1 < s.vars.length) := fun h => hv (decide_eq_true h)
    show Pans _ _ _ _ _ _
    unfold Pans
    go_enter Tryd.func47, Tryd.ntmps47
    repeat' (first | (with_reducible refine Sl.k_call ?_; ((refine s_callP (var_no _ b vi vg c s vv vs vp vn hst _ hv') inX rfl ?_; clear hst; intro w hst; with_unfolding_all exact ⟨rfl, rfl, hst⟩))) | ((fail_if_success (go_big_may)); (go_step)) | ((first | (with_reducible refine Sl.k_load ?_; (refine s_qt hst (qt_load rfl _ BoxIn.h inX rfl rfl) ?_)) | (with_reducible refine Sl.k_field ?_; (refine s_qt hst (qt_field rfl inX) ?_))) <;> (try refine nX ?_)) | (((((refine s_box hst evX rfl ?_; clear hst; intro bx w hst)))) <;> (try refine nX ?_) <;> (try replace hst := nH hst)))
set_option maxRecDepth 4000 in
set_option maxHeartbeats 1000000 in
theorem not_p (w : World) (hst : St S (MC b vi vg c s vv vs vp vn M) w) (gd : GoodV c s) (i : InsD) {gl : List Int} (hi : i.1 = 11) : StepP S M b vi vg c 50 [mPtr b, insVal i] w (execV gl c.2.2.1 i s) := by
  rw [execV_11 hi]
  have hs1 := gd.slen
  simp only [MC, mC] at hst
  by_cases h : s.stack.length = 0
  · rw [if_pos h]
    show Pans _ _ _ _ _ _
    unfold Pans
    go_enter Tryd.func50, Tryd.ntmps50
    repeat' (first | (with_reducible refine Sl.k_call ?_; ((refine s_callP (pop_no _ b vi vg c s vv vs vp vn hst h) inX rfl ?_; clear hst; intro w hst; with_unfolding_all exact ⟨rfl, rfl, hst⟩))) | ((fail_if_success (go_big_may)); (go_step)) | (((((refine s_box hst evX rfl ?_; clear hst; intro bx w hst)))) <;> (try refine nX ?_) <;> (try replace hst := nH hst)))
  · rw [if_neg h]
    unfold pushV
    have h' : (popV s).stack.length < 400 := by simp; omega
    rw [if_pos h']
    show Rets _ _ _ _ _
    unfold Rets
    go_enter Tryd.func50, Tryd.ntmps50
    repeat' (first | (((with_reducible refine Sl.k_call ?_; (first | (refine s_call (pop_ok _ b vi vg c s vv vs vp vn hst h hs1) inX rfl ?_; clear hst; rintro v w ⟨rfl, vs1, hst⟩) | (refine s_call (truth_c _ hst _) inX rfl ?_; clear hst; rintro v w ⟨rfl, hst⟩) | (refine s_call (push_ok _ b vi vg c (popV s) vv vs1 vp vn hst _ h') inX rfl ?_; clear hst; rintro v w ⟨rfl, vs', hst⟩)))) <;> (try refine nX ?_) <;> (try replace hst := nH hst)) | ((fail_if_success (go_big_may)); (go_step)) | (with_reducible refine Sl.gate rfl ?_; (go_step)) | (((((refine s_box hst evX rfl ?_; clear hst; intro bx w hst)))) <;> (try refine nX ?_) <;> (try replace hst := nH hst)))
    go_end0
    exact ⟨_, rfl, rfl, _, _, _, _, hst.drop⟩
set_option maxRecDepth 4000 in
set_option maxHeartbeats 1000000 in
theorem jump_p (w : World) (hst : St S (MC b vi vg c s vv vs vp vn M) w) (gd : GoodV c s) (i : InsD) {gl : List Int} (hi : i.1 = 13) : StepP S M b vi vg c 52 [mPtr b, insVal i] w (execV gl c.2.2.1 i s) := by
  rw [execV_13 hi]
  simp only [MC, mC] at hst
  show Rets _ _ _ _ _
  unfold Rets
  go_enter Tryd.func52, Tryd.ntmps52
  repeat' (first | ((fail_if_success (go_big_may)); (go_step)) | ((first | (with_reducible refine Sl.k_load ?_; (refine s_qt hst (qt_load rfl _ BoxIn.h inX rfl rfl) ?_)) | (with_reducible refine Sl.k_field ?_; (refine s_qt hst (qt_field rfl inX) ?_))) <;> (try refine nX ?_)) | (with_reducible refine Sl.gate rfl ?_; (go_step)) | ((((first | (with_reducible refine Sl.k_store ?_; (refine s_store hst rfl _ BoxIn.h inX evX rfl lenOk oneOk (by simp) ?_); clear hst; intro w hst) | (refine s_box hst evX rfl ?_; clear hst; intro bx w hst)))) <;> (try refine nX ?_) <;> (try replace hst := nH hst)))
  go_end0
  exact ⟨_, rfl, rfl, _, _, _, _, hst.drop⟩
set_option maxRecDepth 4000 in
set_option maxHeartbeats 1000000 in
theorem halt_p (w : World) (hst : St S (MC b vi vg c s vv vs vp vn M) w) (gd : GoodV c s) (i : InsD) {gl : List Int} (hi : i.1 = 15) : StepP S M b vi vg c 54 [mPtr b, insVal i] w (execV gl c.2.2.1 i s) := by
  rw [execV_15 hi]
  simp only [MC, mC] at hst
  show Rets _ _ _ _ _
  unfold Rets
  go_enter Tryd.func54, Tryd.ntmps54
  repeat' (first | ((fail_if_success (go_big_may)); (go_step)) | ((first | (with_reducible refine Sl.k_load ?_; (refine s_qt hst (qt_load rfl _ BoxIn.h inX rfl rfl) ?_)) | (with_reducible refine Sl.k_field ?_; (refine s_qt hst (qt_field rfl inX) ?_))) <;> (try refine nX ?_)) | (with_reducible refine Sl.gate rfl ?_; (go_step)) | ((((first | (with_reducible refine Sl.k_store ?_; (refine s_store hst rfl _ BoxIn.h inX evX rfl lenOk oneOk (by simp) ?_); clear hst; intro w hst) | (refine s_box hst evX rfl ?_; clear hst; intro bx w hst)))) <;> (try refine nX ?_) <;> (try replace hst := nH hst)))
  go_end0
  exact ⟨_, rfl, rfl, _, _, _, _, hst.drop⟩
set_option maxRecDepth 4000 in
set_option maxHeartbeats 1000000 in
theorem accept_p (w : World) (hst : St S (MC b vi vg c s vv vs vp vn M) w) (gd : GoodV c s) (i : InsD) {gl : List Int} (hi : i.1 = 16) : StepP S M b vi vg c 54 [mPtr b, insVal i] w (execV gl c.2.2.1 i s) := by
  rw [execV_16 hi]
  simp only [MC, mC] at hst
  show Rets _ _ _ _ _
  unfold Rets
  go_enter Tryd.func54, Tryd.ntmps54
  repeat' (first | ((fail_if_success (go_big_may)); (go_step)) | ((first | (with_reducible refine Sl.k_load ?_; (refine s_qt hst (qt_load rfl _ BoxIn.h inX rfl rfl) ?_)) | (with_reducible refine Sl.k_field ?_; (refine s_qt hst (qt_field rfl inX) ?_))) <;> (try refine nX ?_)) | (with_reducible refine Sl.gate rfl ?_; (go_step)) | ((((first | (with_reducible refine Sl.k_store ?_; (refine s_store hst rfl _ BoxIn.h inX evX rfl lenOk oneOk (by simp) ?_); clear hst; intro w hst) | (refine s_box hst evX rfl ?_; clear hst; intro bx w hst)))) <;> (try refine nX ?_) <;> (try replace hst := nH hst)))
  go_end0
  exact ⟨_, rfl, rfl, _, _, _, _, hst.drop⟩
set_option maxRecDepth 4000 in
set_option maxHeartbeats 1000000 in
theorem store_p (w : World) (hst : St S (MC b vi vg c s vv vs vp vn M) w) (gd : GoodV c s) (i : InsD) {gl : List Int} (hi : i.1 = 3) : StepP S M b vi vg c 48 [mPtr b, insVal i] w (execV gl c.2.2.1 i s) := by
  rw [execV_3 hi]
  have hs1 := gd.slen
  simp only [MC, mC] at hst
  by_cases h : s.stack.length = 0
  · rw [if_pos h]
    show Pans _ _ _ _ _ _
    unfold Pans
    go_enter Tryd.func48, Tryd.ntmps48
    repeat' (first | (with_reducible refine Sl.k_call ?_; ((refine s_callP (need_no _ hst _ dfX 21) inX rfl ?_; clear hst; intro w hst; with_unfolding_all exact ⟨rfl, rfl, hst.drop.drop.drop.drop.drop.drop⟩))) | ((fail_if_success (go_big_may)); (go_step)) | ((first | (with_reducible refine Sl.k_load ?_; (refine s_qt hst (qt_load rfl _ BoxIn.h inX rfl rfl) ?_)) | (with_reducible refine Sl.k_field ?_; (refine s_qt hst (qt_field rfl inX) ?_)) | (with_reducible refine Sl.k_call ?_; (refine s_qt hst (by exact qt_len_own evX SlIn.h inX) ?_))) <;> (try refine nX ?_)) | (with_reducible refine Sl.gate rfl ?_; (go_step)) | (((((refine s_box hst evX rfl ?_; clear hst; intro bx w hst)))) <;> (try refine nX ?_) <;> (try replace hst := nH hst)))
  rw [if_neg h]
  by_cases hv : inV s i.2.1 = true
  · rw [if_pos hv]
    obtain ⟨h0, h1⟩ := of_decide_eq_true hv
    show Rets _ _ _ _ _
    unfold Rets
    go_enter Tryd.func48, Tryd.ntmps48
    repeat' (first | (((with_reducible (refine s_nilO evX asX ?_))) <;> (try refine nX ?_)) | (((with_reducible refine Sl.k_call ?_; (first | (refine s_call (need_ok _ hst _ dtX 21) inX rfl ?_; clear hst; rintro v w ⟨rfl, hst⟩) | (refine s_call (var_ok _ b vi vg c s vv vs vp vn hst _ h0 h1) inX rfl ?_; clear hst; rintro v w ⟨hp, hst⟩) | (refine s_call (pop_ok _ b vi vg c s vv vs vp vn hst h hs1) inX rfl ?_; clear hst; rintro v w ⟨rfl, vs1, hst⟩)))) <;> (try refine nX ?_) <;> (try replace hst := nH hst)) | ((fail_if_success (go_big_may)); (go_step)) | ((first | (with_reducible refine Sl.k_load ?_; (refine s_qt hst (qt_load rfl _ BoxIn.h inX rfl rfl) ?_)) | (with_reducible refine Sl.k_field ?_; (refine s_qt hst (qt_field rfl inX) ?_)) | (with_reducible refine Sl.k_call ?_; (refine s_qt hst (by exact qt_len_own evX SlIn.h inX) ?_))) <;> (try refine nX ?_)) | (with_reducible refine Sl.gate rfl ?_; (go_step)) | ((((first | (with_reducible refine Sl.k_store ?_; (refine s_stI hst evX asX SlIn.h inX evX omX ?_); clear hst; intro w hst) | (refine s_box hst evX rfl ?_; clear hst; intro bx w hst)))) <;> (try refine nX ?_) <;> (try replace hst := nH hst)))
    go_end0
    refine ⟨_, rfl, rfl, vv, vs1, vp, vn, ?_⟩
    have e : (setV s.vars i.2.1 (topV s)).length = s.vars.length := List.length_set
    simp only [MC, mC]
    rw [e]
    exact hst.drop
  · rw [if_neg hv]
    have hv' : ¬ (0 ≤ i.2.1 ∧ i.2.1 < s.vars.length) := fun h => hv (decide_eq_true h)
    show Pans _ _ _ _ _ _
    unfold Pans
    go_enter Tryd.func48, Tryd.ntmps48
    repeat' (first | (((with_reducible refine Sl.k_call ?_; ((refine s_call (need_ok _ hst _ dtX 21) inX rfl ?_; clear hst; rintro v w ⟨rfl, hst⟩)))) <;> (try refine nX ?_) <;> (try replace hst := nH hst)) | (with_reducible refine Sl.k_call ?_; ((refine s_callP (var_no _ b vi vg c s vv vs vp vn hst _ hv') inX rfl ?_; clear hst; intro w hst; with_unfolding_all exact ⟨rfl, rfl, hst⟩))) | ((fail_if_success (go_big_may)); (go_step)) | ((first | (with_reducible refine Sl.k_load ?_; (refine s_qt hst (qt_load rfl _ BoxIn.h inX rfl rfl) ?_)) | (with_reducible refine Sl.k_field ?_; (refine s_qt hst (qt_field rfl inX) ?_)) | (with_reducible refine Sl.k_call ?_; (refine s_qt hst (by exact qt_len_own evX SlIn.h inX) ?_))) <;> (try refine nX ?_)) | (with_reducible refine Sl.gate rfl ?_; (go_step)) | (((((refine s_box hst evX rfl ?_; clear hst; intro bx w hst)))) <;> (try refine nX ?_) <;> (try replace hst := nH hst)))
end
end Go.Proofs.YtmbdbfdlbbkclaaDoor

/- Package vm: more instructions, walked. -/
--@hgp
--@ex0
namespace Go.Proofs.YtmbdbfdlbbkclaaDoor
set_option linter.unusedSimpArgs false
set_option linter.unusedVariables false
open Go.RowKit Go.Sl

section
variable {S : Snap} {M : List Chunk} {b : Nat} {vi vg : Value} {c : CodeD} {s : VS} {vv vs vp vn : Value}
theorem pop2_len {s : VS} (h : ¬ s.stack.length < 2) (h4 : s.stack.length ≤ 400) : (popV (popV s)).stack.length < 400 := by simp; omega
theorem pop1_len {s : VS} (h : ¬ s.stack.length < 2) (h4 : s.stack.length ≤ 400) : ¬ (popV s).stack.length = 0 ∧ (popV s).stack.length ≤ 400 := by simp; omega
theorem stk_eq {s : VS} {w : World} {t : List Int} {x y : Int} (h : x = y) (hst : St S (MC b vi vg c { s with stack := t ++ [x] } vv vs vp vn M) w) : St S (MC b vi vg c { s with stack := t ++ [y] } vv vs vp vn M) w := by rw [← h]; exact hst
theorem cF_snocI (xs : List Int) (x : Int) : cF intC (xs ++ [x]) = cF intC xs ++ [.int .i64 x] := by simp [cF, intC]
theorem mul_in {a b : Int} (ha : inR a) (hb : inR b) : 0 ≤ a * b ∧ a * b ≤ 4294836225 := by
  unfold inR at *
  refine ⟨Int.mul_nonneg ha.1 hb.1, ?_⟩
  have := Int.mul_le_mul ha.2 hb.2 hb.1 (by decide)
  simpa using this
set_option maxRecDepth 8000 in
set_option maxHeartbeats 2000000 in
theorem binary_p (w : World) (hst : St S (MC b vi vg c s vv vs vp vn M) w) (gd : GoodV c s) (i : InsD) {gl : List Int} (h1 : i.1 ≠ 1) (h2 : i.1 ≠ 2) (h3 : i.1 ≠ 3) (h4 : i.1 ≤ 10) (hop : i.1 = 4 ∨ i.1 = 5 ∨ i.1 = 6 ∨ i.1 = 7 ∨ i.1 = 8 ∨ i.1 = 9 ∨ i.1 = 10) : StepP S M b vi vg c 49 [mPtr b, insVal i] w (execV gl c.2.2.1 i s) := by
  rw [execV_4 h1 h2 h3 h4]
  have hs1 := gd.slen
  simp only [MC, mC] at hst
  by_cases h : s.stack.length < 2
  · rw [if_pos h]
    show Pans _ _ _ _ _ _
    unfold Pans
    go_enter Tryd.func49, Tryd.ntmps49
    repeat' (first | (with_reducible refine Sl.k_call ?_; ((refine s_callP (need_no _ hst _ dfX 21) inX rfl ?_; clear hst; intro w hst; with_unfolding_all exact ⟨rfl, rfl, hst.drop.drop.drop.drop.drop.drop⟩))) | ((fail_if_success (go_big_may)); (go_step)) | ((first | (with_reducible refine Sl.k_load ?_; (refine s_qt hst (qt_load rfl _ BoxIn.h inX rfl rfl) ?_)) | (with_reducible refine Sl.k_field ?_; (refine s_qt hst (qt_field rfl inX) ?_)) | (with_reducible refine Sl.k_call ?_; (refine s_qt hst (by exact qt_len_own evX SlIn.h inX) ?_))) <;> (try refine nX ?_)) | (with_reducible refine Sl.gate rfl ?_; (go_step)) | (((((refine s_box hst evX rfl ?_; clear hst; intro bx w hst)))) <;> (try refine nX ?_) <;> (try replace hst := nH hst)))
  · rw [if_neg h]
    unfold pushV
    have hl := pop2_len h hs1
    have hl1 := (pop1_len h hs1).1
    have hl2 := (pop1_len h hs1).2
    have hl0 : ¬ s.stack.length = 0 := by omega
    rw [if_pos hl]
    show Rets _ _ _ _ _
    unfold Rets
    have i1 := top_in gd
    have i2 := top_in (pop_good gd)
    have i3 := mul_in i2 i1
    have i1a := i1.1
    have i1b := i1.2
    have i2a := i2.1
    have i2b := i2.2
    have cP1 := fun {M : List Chunk} (w : World) X (hst : St S (X :: MC b vi vg c s vv vs vp vn M) w) => pop_ok w b vi vg c s vv vs vp vn hst hl0 hs1
    have cP2 := fun {M : List Chunk} (w : World) X vs (hst : St S (X :: MC b vi vg c (popV s) vv vs vp vn M) w) => pop_ok w b vi vg c (popV s) vv vs vp vn hst hl1 hl2
    have cP3 := fun {M : List Chunk} (w : World) X vs v (hst : St S (X :: MC b vi vg c (popV (popV s)) vv vs vp vn M) w) => push_ok w b vi vg c (popV (popV s)) vv vs vp vn hst v hl
    generalize topV (popV s) = x at *
    generalize topV s = y at *
    rcases hop with e | e | e | e | e | e | e
    rotate_left 5
    rotate_left 2
    iterate 5
      rw [e]
      go_enter Tryd.func49, Tryd.ntmps49
      repeat' ((fail_if_success (with_reducible show Code.wp _ (Code.region 5 _ _) _ _ _)); first | (((with_reducible refine Sl.k_call ?_; (first | (refine s_call (need_ok _ hst _ dtX 21) inX rfl ?_; clear hst; rintro v w ⟨rfl, hst⟩) | (refine s_call (cP1 _ _ hst) inX rfl ?_; clear hst; rintro v w ⟨rfl, vs1, hst⟩) | (refine s_call (cP2 _ _ _ hst) inX rfl ?_; clear hst; rintro v w ⟨rfl, vs2, hst⟩)))) <;> (try refine nX ?_) <;> (try replace hst := nH hst)) | ((fail_if_success (go_big_may)); (go_step)) | ((first | (with_reducible refine Sl.k_load ?_; (refine s_qt hst (qt_load rfl _ BoxIn.h inX rfl rfl) ?_)) | (with_reducible refine Sl.k_field ?_; (refine s_qt hst (qt_field rfl inX) ?_)) | (with_reducible refine Sl.k_call ?_; (refine s_qt hst (by exact qt_len_own evX SlIn.h inX) ?_))) <;> (try refine nX ?_)) | (with_reducible refine Sl.gate rfl ?_; (go_step)) | (((((refine s_box hst evX rfl ?_; clear hst; intro bx w hst)))) <;> (try refine nX ?_) <;> (try replace hst := nH hst)))
      simp only [e]
      repeat' (first | (((with_reducible refine Sl.k_call ?_; (first | (refine s_call (wrap_c _ hst _) inX rfl ?_; clear hst; rintro v w ⟨rfl, hst⟩) | (refine s_call (truth_c _ hst _) inX rfl ?_; clear hst; rintro v w ⟨rfl, hst⟩) | (refine s_call (cP3 _ _ _ _ hst) inX rfl ?_; clear hst; rintro v w ⟨rfl, vs3, hst⟩)))) <;> (try refine nX ?_) <;> (try replace hst := nH hst)) | ((fail_if_success (go_big_may)); (go_step)) | (with_reducible refine Sl.gate rfl ?_; (go_step)))
      go_end0
      exact ⟨_, rfl, rfl, vv, vs3, vp, vn, stk_eq rfl hst.drop⟩
    all_goals
      rw [e]
      go_enter Tryd.func49, Tryd.ntmps49
      repeat' ((fail_if_success (with_reducible show Code.wp _ (Code.region 5 _ _) _ _ _)); first | (((with_reducible refine Sl.k_call ?_; (first | (refine s_call (need_ok _ hst _ dtX 21) inX rfl ?_; clear hst; rintro v w ⟨rfl, hst⟩) | (refine s_call (cP1 _ _ hst) inX rfl ?_; clear hst; rintro v w ⟨rfl, vs1, hst⟩) | (refine s_call (cP2 _ _ _ hst) inX rfl ?_; clear hst; rintro v w ⟨rfl, vs2, hst⟩)))) <;> (try refine nX ?_) <;> (try replace hst := nH hst)) | ((fail_if_success (go_big_may)); (go_step)) | ((first | (with_reducible refine Sl.k_load ?_; (refine s_qt hst (qt_load rfl _ BoxIn.h inX rfl rfl) ?_)) | (with_reducible refine Sl.k_field ?_; (refine s_qt hst (qt_field rfl inX) ?_)) | (with_reducible refine Sl.k_call ?_; (refine s_qt hst (by exact qt_len_own evX SlIn.h inX) ?_))) <;> (try refine nX ?_)) | (with_reducible refine Sl.gate rfl ?_; (go_step)) | (((((refine s_box hst evX rfl ?_; clear hst; intro bx w hst)))) <;> (try refine nX ?_) <;> (try replace hst := nH hst)))
      simp only [e]
      repeat' (first | go_skip | (((with_reducible refine Sl.k_guard ?_; (first | (refine Sl.guard_yes rfl ?_) | (refine Sl.guard_cases rfl ?_ ?_ <;> intro hg <;> (simp only [hg, Bool.not_true, Bool.not_false])) <;> (try simp only [decide_eq_true_eq, decide_eq_false_iff_not, Bool.not_false, Bool.not_true, beq_iff_eq, beq_eq_false_iff_ne, bne_iff_ne, bne_eq_false_iff_eq, ne_eq] at hg)))) <;> (try refine nX ?_)) | (((with_reducible refine Sl.k_call ?_; (first | (refine s_call (truth_c _ hst _) inX rfl ?_; clear hst; rintro v w ⟨rfl, hst⟩) | (refine s_call (cP3 _ _ _ _ hst) inX rfl ?_; clear hst; rintro v w ⟨rfl, vs3, hst⟩)))) <;> (try refine nX ?_) <;> (try replace hst := nH hst)) | ((fail_if_success (go_big_may)); (go_step)) | (with_reducible refine Sl.gate rfl ?_; (go_step)))
      all_goals
        go_end0
        refine ⟨_, rfl, rfl, vv, vs3, vp, vn, stk_eq ?_ hst.drop⟩
        simp [binV, truthV, hg]
set_option maxRecDepth 8000 in
set_option maxHeartbeats 2000000 in
theorem loop_p (w : World) (hst : St S (MC b vi vg c s vv vs vp vn M) w) (gd : GoodV c s) (i : InsD) {gl : List Int} (hi : 16 < i.1) : StepP S M b vi vg c 55 [mPtr b, insVal i] w (execV gl c.2.2.1 i s) := by
  rw [execV_17 hi]
  simp only [MC, mC] at hst
  by_cases hv : inV s i.2.1 = true
  · rw [if_pos hv]
    obtain ⟨h0, h1⟩ := of_decide_eq_true hv
    have hlt : i.2.1.toNat < s.vars.length := by omega
    have e := getD_at hlt
    have hin := gd.vars _ (List.getElem_mem hlt)
    have hi1 := hin.1
    have hi2 := hin.2
    rw [e]
    show Rets _ _ _ _ _
    unfold Rets
    have e3 : ∀ x, (setV s.vars i.2.1 x).length = s.vars.length := fun x => List.length_set
    have hg := List.getElem_set_self (l := s.vars) (i := i.2.1.toNat) (a := loopV s.vars[i.2.1.toNat]) (by rw [List.length_set]; exact hlt)
    have hl : loopV s.vars[i.2.1.toNat] = max (s.vars[i.2.1.toNat] - 1) 0 := rfl
    rw [hl] at hg
    by_cases hp0 : 0 < max (s.vars[i.2.1.toNat] - 1) 0
    · rw [hl, if_pos hp0]
      clear hl
      go_enter Tryd.func55, Tryd.ntmps55
      repeat' (first | (((with_reducible (refine s_nilO evX asX ?_))) <;> (try refine nX ?_)) | (((with_reducible refine Sl.k_call ?_; ((refine s_call (var_ok _ b vi vg c s vv vs vp vn hst _ h0 h1) inX rfl ?_; clear hst; rintro v w ⟨hp, hst⟩)))) <;> (try refine nX ?_) <;> (try replace hst := nH hst)) | ((fail_if_success (go_big_may)); (go_step)) | ((first | (with_reducible refine Sl.k_load ?_; (first | refine s_qt hst (qt_load rfl _ BoxIn.h inX rfl rfl) ?_ | refine s_qt hst (by exact qt_ldI evX asX SlIn.h inX omX) ?_)) | (with_reducible refine Sl.k_field ?_; (refine s_qt hst (qt_field rfl inX) ?_)) | (with_reducible refine Sl.k_call ?_; (refine s_qt hst (by exact qt_max rfl rfl) ?_))) <;> (try refine nX ?_)) | (with_reducible refine Sl.gate rfl ?_; (go_step)) | ((((first | (with_reducible refine Sl.k_store ?_; (first | refine s_store hst rfl _ BoxIn.h inX evX rfl lenOk oneOk (by simp) ?_ | refine s_stI hst evX asX SlIn.h inX evX omX ?_); clear hst; intro w hst) | (refine s_box hst evX rfl ?_; clear hst; intro bx w hst)))) <;> (try refine nX ?_) <;> (try replace hst := nH hst)))
      go_end0
      refine ⟨_, rfl, rfl, vv, vs, vp, vn, ?_⟩
      simp only [MC, mC]
      rw [e3]
      exact hst.drop
    · rw [hl, if_neg hp0]
      clear hl
      go_enter Tryd.func55, Tryd.ntmps55
      repeat' (first | (((with_reducible (refine s_nilO evX asX ?_))) <;> (try refine nX ?_)) | (((with_reducible refine Sl.k_call ?_; ((refine s_call (var_ok _ b vi vg c s vv vs vp vn hst _ h0 h1) inX rfl ?_; clear hst; rintro v w ⟨hp, hst⟩)))) <;> (try refine nX ?_) <;> (try replace hst := nH hst)) | ((fail_if_success (go_big_may)); (go_step)) | ((first | (with_reducible refine Sl.k_load ?_; (first | refine s_qt hst (qt_load rfl _ BoxIn.h inX rfl rfl) ?_ | refine s_qt hst (by exact qt_ldI evX asX SlIn.h inX omX) ?_)) | (with_reducible refine Sl.k_field ?_; (refine s_qt hst (qt_field rfl inX) ?_)) | (with_reducible refine Sl.k_call ?_; (refine s_qt hst (by exact qt_max rfl rfl) ?_))) <;> (try refine nX ?_)) | (with_reducible refine Sl.gate rfl ?_; (go_step)) | ((((first | (with_reducible refine Sl.k_store ?_; (refine s_stI hst evX asX SlIn.h inX evX omX ?_); clear hst; intro w hst) | (refine s_box hst evX rfl ?_; clear hst; intro bx w hst)))) <;> (try refine nX ?_) <;> (try replace hst := nH hst)))
      go_end0
      refine ⟨_, rfl, rfl, vv, vs, vp, vn, ?_⟩
      simp only [MC, mC]
      rw [e3]
      exact hst.drop
  · rw [if_neg hv]
    have hv' : ¬ (0 ≤ i.2.1 ∧ i.2.1 < s.vars.length) := fun h => hv (decide_eq_true h)
    show Pans _ _ _ _ _ _
    unfold Pans
    go_enter Tryd.func55, Tryd.ntmps55
    repeat' (first | (with_reducible refine Sl.k_call ?_; ((refine s_callP (var_no _ b vi vg c s vv vs vp vn hst _ hv') inX rfl ?_; clear hst; intro w hst; with_unfolding_all exact ⟨rfl, rfl, hst⟩))) | ((fail_if_success (go_big_may)); (go_step)) | ((first | (with_reducible refine Sl.k_load ?_; (refine s_qt hst (qt_load rfl _ BoxIn.h inX rfl rfl) ?_)) | (with_reducible refine Sl.k_field ?_; (refine s_qt hst (qt_field rfl inX) ?_))) <;> (try refine nX ?_)) | (((((refine s_box hst evX rfl ?_; clear hst; intro bx w hst)))) <;> (try refine nX ?_) <;> (try replace hst := nH hst)))
set_option maxRecDepth 8000 in
set_option maxHeartbeats 2000000 in
theorem note_p (w : World) (hst : St S (MC b vi vg c s vv vs vp vn M) w) (gd : GoodV c s) (i : InsD) {gl : List Int} (hi : i.1 = 14) : StepP S M b vi vg c 53 [mPtr b, insVal i] w (execV gl c.2.2.1 i s) := by
  rw [execV_14 hi]
  have hs1 := gd.slen
  have hn1 := gd.nlen
  have hst1 := gd.steps
  have hn3 : (popV s).notes.length ≤ 3000 := by show s.notes.length ≤ 3000; omega
  simp only [MC, mC] at hst
  by_cases h : s.stack.length = 0
  · rw [if_pos h]
    show Pans _ _ _ _ _ _
    unfold Pans
    go_enter Tryd.func53, Tryd.ntmps53
    repeat' (first | ((fail_if_success (go_big_may)); (go_step)) | (((((refine s_box hst evX rfl ?_; clear hst; intro bx w hst)))) <;> (try refine nX ?_) <;> (try replace hst := nH hst)))
    refine p_begin hst (by kernel_rfl) ?_; clear hst; intro w hst; (try refine nX ?_)
    refine p_take 0 panicQ_body rfl (by kernel_rfl) (by kernel_rfl) (by kernel_rfl) rfl (fun _ _ => qt_move evX) ?_; (try refine nX ?_)
    refine p_take 1 panicQ_body rfl (by kernel_rfl) (by kernel_rfl) (by kernel_rfl) rfl (fun _ _ => qt_move evX) ?_; (try refine nX ?_)
    refine p_take 2 panicQ_body rfl (by kernel_rfl) (by kernel_rfl) (by kernel_rfl) rfl (fun _ _ => qt_nil evX) ?_; (try refine nX ?_)
    refine p_take 3 panicQ_body rfl (by kernel_rfl) (by kernel_rfl) (by kernel_rfl) rfl (fun _ _ => qt_field rfl inX) ?_; (try refine nX ?_)
    refine p_take 4 panicQ_body rfl (by kernel_rfl) (by kernel_rfl) (by kernel_rfl) rfl (fun _ _ => qt_field rfl inX) ?_; (try refine nX ?_)
    refine p_take 6 panicQ_body rfl (by kernel_rfl) (by kernel_rfl) (by kernel_rfl) rfl (fun _ _ => qt_move evX) ?_; (try refine nX ?_)
    refine p_two 5 7 rfl rfl (by kernel_rfl) ?_ ?_
    · intro K hK
      repeat' (first | ((fail_if_success (go_big_may)); (go_step)) | (((with_reducible refine Sl.k_load ?_; (refine s_qt hst (qt_load rfl _ BoxIn.h inX rfl rfl) ?_))) <;> (try refine nX ?_)))
      refine hK _ _ _ ?_; clear hK K
      refine p_one 7 rfl (by kernel_rfl) ?_; intro K hK
      repeat' ((with_reducible refine Sl.k_call ?_; ((refine s_callP (pop_no _ b vi vg c s vv vs vp vn hst h) inX rfl ?_; clear hst; intro w hst; with_unfolding_all exact ⟨rfl, rfl, hst⟩))))
    · intro K hK
      repeat' ((with_reducible refine Sl.k_call ?_; ((refine s_callP (pop_no _ b vi vg c s vv vs vp vn hst h) inX rfl ?_; clear hst; intro w hst; with_unfolding_all exact ⟨rfl, rfl, hst⟩))))
  · rw [if_neg h]
    show Rets _ _ _ _ _
    unfold Rets
    go_enter Tryd.func53, Tryd.ntmps53
    repeat' (first | ((fail_if_success (go_big_may)); (go_step)) | (((((refine s_box hst evX rfl ?_; clear hst; intro bx w hst)))) <;> (try refine nX ?_) <;> (try replace hst := nH hst)))
    refine p_begin hst (by kernel_rfl) ?_; clear hst; intro w hst; (try refine nX ?_)
    refine p_take 0 panicQ_body rfl (by kernel_rfl) (by kernel_rfl) (by kernel_rfl) rfl (fun _ _ => qt_move evX) ?_; (try refine nX ?_)
    refine p_take 1 panicQ_body rfl (by kernel_rfl) (by kernel_rfl) (by kernel_rfl) rfl (fun _ _ => qt_move evX) ?_; (try refine nX ?_)
    refine p_take 2 panicQ_body rfl (by kernel_rfl) (by kernel_rfl) (by kernel_rfl) rfl (fun _ _ => qt_nil evX) ?_; (try refine nX ?_)
    refine p_take 3 panicQ_body rfl (by kernel_rfl) (by kernel_rfl) (by kernel_rfl) rfl (fun _ _ => qt_field rfl inX) ?_; (try refine nX ?_)
    refine p_take 4 panicQ_body rfl (by kernel_rfl) (by kernel_rfl) (by kernel_rfl) rfl (fun _ _ => qt_field rfl inX) ?_; (try refine nX ?_)
    refine p_take 6 panicQ_body rfl (by kernel_rfl) (by kernel_rfl) (by kernel_rfl) rfl (fun _ _ => qt_move evX) ?_; (try refine nX ?_)
    refine p_two 5 7 rfl rfl (by kernel_rfl) ?_ ?_
    · intro K hK
      repeat' (first | ((fail_if_success (go_big_may)); (go_step)) | (((with_reducible refine Sl.k_load ?_; (refine s_qt hst (qt_load rfl _ BoxIn.h inX rfl rfl) ?_))) <;> (try refine nX ?_)))
      refine hK _ _ _ ?_; clear hK K
      refine p_one 7 rfl (by kernel_rfl) ?_; intro K hK
      repeat' (first | (((with_reducible refine Sl.k_call ?_; ((refine s_call (pop_ok _ b vi vg c s vv vs vp vn hst h hs1) inX rfl ?_; clear hst; rintro v w ⟨rfl, vs1, hst⟩)))) <;> (try refine nX ?_) <;> (try replace hst := nH hst)) | ((fail_if_success (go_big_may)); (go_step)))
      refine hK _ _ _ ?_; clear hK K
      refine p_one 8 rfl (by kernel_rfl) ?_; intro K hK
      refine s_lit (vs := [.int .i64 (topV s)]) hst inX inX rfl rfl (by simp [Value.cells]) rfl (by omega) (by omega) ?_; clear hst; intro u w hst; (try refine nX ?_)
      refine hK _ _ _ ?_; clear hK K
      refine p_one 9 rfl (by kernel_rfl) ?_; intro K hK
      refine s_append (j := 0) hst evX evX SlIn.h rfl inX inX inX (by simp [Value.cells, Value.oneCell']) (by omega) (by omega) (by decide) ?_
      clear hst; intro vn' w hst
      (try refine nX ?_)
      (try replace hst := nH hst)
      replace hst := hst.drop
      refine hK _ _ _ ?_; clear hK K
      have hn2 := sl_onek hst (k := 5) rfl
      refine p_one 10 rfl (by kernel_rfl) ?_; intro K hK
      repeat' (first | ((fail_if_success (go_big_may)); (go_step)) | (with_reducible refine Sl.gate rfl ?_; (go_step)))
      refine hK _ _ _ ?_; clear hK K
      refine p_one 11 rfl (by kernel_rfl) ?_; intro K hK
      repeat' (first | ((fail_if_success (go_big_may)); (go_step)) | (((with_reducible refine Sl.k_field ?_; (refine s_qt hst (qt_field rfl inX) ?_))) <;> (try refine nX ?_)))
      refine hK _ _ _ ?_; clear hK K
      refine p_one 12 rfl (by kernel_rfl) ?_; intro K hK
      repeat' (first | ((fail_if_success (go_big_may)); (go_step)) | (((with_reducible refine Sl.k_field ?_; (refine s_qt hst (qt_field rfl inX) ?_))) <;> (try refine nX ?_)))
      refine hK _ _ _ ?_; clear hK K
      refine p_one 13 rfl (by kernel_rfl) ?_; intro K hK
      repeat' (first | ((fail_if_success (go_big_may)); (go_step)) | (((((with_reducible refine Sl.k_store ?_; (refine s_st1 hst rfl BoxIn.h evX asX inX (by simp) ?_); clear hst; intro w hst)))) <;> (try refine nX ?_) <;> (try replace hst := nH hst)))
      refine hK _ _ _ ?_; clear hK K
      refine p_done (by kernel_rfl) ?_
      go_end0
      refine ⟨_, rfl, rfl, vv, vs1, vp, vn', ?_⟩
      simp only [MC, mC]
      rw [cF_snocI, List.length_append]
      exact hst.drop
    · intro K hK
      repeat' (first | (((with_reducible refine Sl.k_call ?_; ((refine s_call (pop_ok _ b vi vg c s vv vs vp vn hst h hs1) inX rfl ?_; clear hst; rintro v w ⟨rfl, vs1, hst⟩)))) <;> (try refine nX ?_) <;> (try replace hst := nH hst)) | ((fail_if_success (go_big_may)); (go_step)))
      refine hK _ _ _ ?_; clear hK K
      refine p_two 5 8 rfl rfl (by kernel_rfl) ?_ ?_
      · intro K hK
        repeat' (first | ((fail_if_success (go_big_may)); (go_step)) | (((with_reducible refine Sl.k_load ?_; (refine s_qt hst (qt_load rfl _ BoxIn.h inX rfl rfl) ?_))) <;> (try refine nX ?_)))
        refine hK _ _ _ ?_; clear hK K
        refine p_one 8 rfl (by kernel_rfl) ?_; intro K hK
        refine s_lit (vs := [.int .i64 (topV s)]) hst inX inX rfl rfl (by simp [Value.cells]) rfl (by omega) (by omega) ?_; clear hst; intro u w hst; (try refine nX ?_)
        refine hK _ _ _ ?_; clear hK K
        refine p_one 9 rfl (by kernel_rfl) ?_; intro K hK
        refine s_append (j := 0) hst evX evX SlIn.h rfl inX inX inX (by simp [Value.cells, Value.oneCell']) (by omega) (by omega) (by decide) ?_
        clear hst; intro vn' w hst
        (try refine nX ?_)
        (try replace hst := nH hst)
        replace hst := hst.drop
        refine hK _ _ _ ?_; clear hK K
        have hn2 := sl_onek hst (k := 5) rfl
        refine p_one 10 rfl (by kernel_rfl) ?_; intro K hK
        repeat' (first | ((fail_if_success (go_big_may)); (go_step)) | (with_reducible refine Sl.gate rfl ?_; (go_step)))
        refine hK _ _ _ ?_; clear hK K
        refine p_one 11 rfl (by kernel_rfl) ?_; intro K hK
        repeat' (first | ((fail_if_success (go_big_may)); (go_step)) | (((with_reducible refine Sl.k_field ?_; (refine s_qt hst (qt_field rfl inX) ?_))) <;> (try refine nX ?_)))
        refine hK _ _ _ ?_; clear hK K
        refine p_one 12 rfl (by kernel_rfl) ?_; intro K hK
        repeat' (first | ((fail_if_success (go_big_may)); (go_step)) | (((with_reducible refine Sl.k_field ?_; (refine s_qt hst (qt_field rfl inX) ?_))) <;> (try refine nX ?_)))
        refine hK _ _ _ ?_; clear hK K
        refine p_one 13 rfl (by kernel_rfl) ?_; intro K hK
        repeat' (first | ((fail_if_success (go_big_may)); (go_step)) | (((((with_reducible refine Sl.k_store ?_; (refine s_st1 hst rfl BoxIn.h evX asX inX (by simp) ?_); clear hst; intro w hst)))) <;> (try refine nX ?_) <;> (try replace hst := nH hst)))
        refine hK _ _ _ ?_; clear hK K
        refine p_done (by kernel_rfl) ?_
        go_end0
        refine ⟨_, rfl, rfl, vv, vs1, vp, vn', ?_⟩
        simp only [MC, mC]
        rw [cF_snocI, List.length_append]
        exact hst.drop
      · intro K hK
        refine s_lit (vs := [.int .i64 (topV s)]) hst inX inX rfl rfl (by simp [Value.cells]) rfl (by omega) (by omega) ?_; clear hst; intro u w hst; (try refine nX ?_)
        refine hK _ _ _ ?_; clear hK K
        refine p_one 5 rfl (by kernel_rfl) ?_; intro K hK
        repeat' (first | ((fail_if_success (go_big_may)); (go_step)) | (((with_reducible refine Sl.k_load ?_; (refine s_qt hst (qt_load rfl _ BoxIn.h inX rfl rfl) ?_))) <;> (try refine nX ?_)))
        refine hK _ _ _ ?_; clear hK K
        refine p_one 9 rfl (by kernel_rfl) ?_; intro K hK
        refine s_append (j := 0) hst evX evX SlIn.h rfl inX inX inX (by simp [Value.cells, Value.oneCell']) (by omega) (by omega) (by decide) ?_
        clear hst; intro vn' w hst
        (try refine nX ?_)
        (try replace hst := nH hst)
        replace hst := hst.drop
        refine hK _ _ _ ?_; clear hK K
        have hn2 := sl_onek hst (k := 5) rfl
        refine p_one 10 rfl (by kernel_rfl) ?_; intro K hK
        repeat' (first | ((fail_if_success (go_big_may)); (go_step)) | (with_reducible refine Sl.gate rfl ?_; (go_step)))
        refine hK _ _ _ ?_; clear hK K
        refine p_one 11 rfl (by kernel_rfl) ?_; intro K hK
        repeat' (first | ((fail_if_success (go_big_may)); (go_step)) | (((with_reducible refine Sl.k_field ?_; (refine s_qt hst (qt_field rfl inX) ?_))) <;> (try refine nX ?_)))
        refine hK _ _ _ ?_; clear hK K
        refine p_one 12 rfl (by kernel_rfl) ?_; intro K hK
        repeat' (first | ((fail_if_success (go_big_may)); (go_step)) | (((with_reducible refine Sl.k_field ?_; (refine s_qt hst (qt_field rfl inX) ?_))) <;> (try refine nX ?_)))
        refine hK _ _ _ ?_; clear hK K
        refine p_one 13 rfl (by kernel_rfl) ?_; intro K hK
        repeat' (first | ((fail_if_success (go_big_may)); (go_step)) | (((((with_reducible refine Sl.k_store ?_; (refine s_st1 hst rfl BoxIn.h evX asX inX (by simp) ?_); clear hst; intro w hst)))) <;> (try refine nX ?_) <;> (try replace hst := nH hst)))
        refine hK _ _ _ ?_; clear hK K
        refine p_done (by kernel_rfl) ?_
        go_end0
        refine ⟨_, rfl, rfl, vv, vs1, vp, vn', ?_⟩
        simp only [MC, mC]
        rw [cF_snocI, List.length_append]
        exact hst.drop
end
end Go.Proofs.YtmbdbfdlbbkclaaDoor

/- Package slices' Index, Contains, IndexFunc, ContainsFunc at []int; package vm's 'valid'; the instruction 'branch'. -/
--@hgp
--@ex0
namespace Go.Proofs.YtmbdbfdlbbkclaaDoor
set_option linter.unusedSimpArgs false
set_option linter.unusedVariables false
open Go.RowKit Go.Sl

def idxOf (p : Int → Bool) (xs : List Int) : Int := match xs.findIdx? p with | some i => i | none => -1
theorem idxOf_some {p : Int → Bool} {xs : List Int} {k : Nat} (hk : k < xs.length) (hn : ∀ j (h : j < xs.length), j < k → p xs[j] = false) (hp : p xs[k] = true) : idxOf p xs = k := by
  have : xs.findIdx? p = some k := by
    rw [List.findIdx?_eq_some_iff_getElem]
    exact ⟨hk, hp, fun j hj => by simp [hn j (by omega) hj]⟩
  simp [idxOf, this]
theorem idxOf_none {p : Int → Bool} {xs : List Int} (hn : ∀ j (h : j < xs.length), p xs[j] = false) : idxOf p xs = -1 := by
  have : xs.findIdx? p = none := by
    rw [List.findIdx?_eq_none_iff]
    intro x hx
    obtain ⟨j, hj, rfl⟩ := List.mem_iff_getElem.1 hx
    simp [hn j hj]
  simp [idxOf, this]
theorem idxOf_any (p : Int → Bool) (xs : List Int) : decide (0 ≤ idxOf p xs) = xs.any p := by
  by_cases h : xs.any p = true
  · obtain ⟨x, hx, hpx⟩ := List.any_eq_true.1 h
    rw [h, decide_eq_true]
    cases hf : xs.findIdx? p with
    | none => rw [List.findIdx?_eq_none_iff] at hf; have := hf x hx; simp [hpx] at this
    | some i => simp [idxOf, hf]
  · rw [show xs.any p = false from by simpa using h, decide_eq_false]
    have hf : xs.findIdx? p = none := by
      rw [List.findIdx?_eq_none_iff]
      intro x hx
      cases hpx : p x with
      | false => rfl
      | true => exact (h (List.any_eq_true.2 ⟨x, hx, hpx⟩)).elim
    simp [idxOf, hf]

set_option maxHeartbeats 400000 in
theorem indexFunc_c {S M} (w : World) (hst : St S M w) (vs : Value) (xs : List Int) (hxs : RSl S vs xs) (hm : xs.length ≤ 1048576) (g : FuncId) (hg : Body Tryd.prog g) (ca : List Value) (p : Int → Bool)
    (hp : ∀ x w, I64 x → St S M w → Rets Tryd.prog g (.int .i64 x :: ca) w fun v w' => v = .bool (p x) ∧ St S M w') :
    Rets Tryd.prog 29 [vs, .func (.func g) #[] ca.toArray] w fun v w' => v = .int .i64 (idxOf p xs) ∧ St S M w' := by
  unfold Rets
  have Hp := Lib.hid hp; clear hp
  go_enter Tryd.func29, Tryd.ntmps29
  repeat' (first | ((fail_if_success (go_big_may)); (go_step)) | (((with_reducible refine Sl.k_call ?_; (refine s_qt hst (by exact qt_len evX asX inX) ?_))) <;> (try refine nX ?_)))
  go_loopw [8] (fun v wr => ∃ k : Nat, k ≤ xs.length ∧ v = .int .i64 k ∧ (∀ j (h : j < xs.length), j < k → p xs[j] = false) ∧ St S M wr) (fun v _ => xs.length - (intOf v).toNat)
  case atStart => exact ⟨0, Nat.zero_le _, rfl, fun j _ h => by omega, hst⟩
  case round =>
    clear hst
    obtain ⟨k, hk, rfl, hn, hst⟩ := hrel
    have Hn := Lib.hid hn; clear hn
    by_cases hlt : k < xs.length
    · repeat' (first | (((with_reducible refine Sl.k_call ?_; ((refine s_callv (Hp.out _ _ (by assumption) hst) rfl inX rfl rfl ?_; clear hst; rintro v w ⟨rfl, hst⟩)))) <;> (try refine nX ?_) <;> (try replace hst := nH hst)) | ((fail_if_success (go_big_may)); (go_step)) | ((first | (with_reducible refine Sl.k_load ?_; ((refine s_ex hst (qt_ldp_int evX asX inX) ?_; rintro v ⟨rfl, hI⟩))) | (with_reducible refine Sl.k_index ?_; (((refine s_ex hst (qt_index evX asX rfl inX inX omX omX) ?_); rintro v hp; (try simp only [Int.toNat_natCast, Int.toNat_natCast_add_one, Int.reduceToNat] at hp))))) <;> (try refine nX ?_)) | (with_reducible refine Sl.gate rfl ?_; (go_step)))
      · rename_i ht
        go_ret
        exact ⟨_, rfl, by rw [idxOf_some hlt Hn.out ht]; rfl, hst⟩
      · rename_i hf
        go_roundw
        case rel => exact ⟨k + 1, by omega, by go_num, fun j hj h => (by rcases Nat.lt_succ_iff_lt_or_eq.1 h with h | rfl; exact Hn.out j hj h; exact hf), hst⟩
        case measure => simp [intOf]; omega
    · repeat' (first | ((fail_if_success (go_big_may)); (go_step)) | (with_reducible refine Sl.gate rfl ?_; (go_step)))
      go_ret
      exact ⟨_, rfl, by rw [idxOf_none (fun j hj => Hn.out j hj (by omega))]; rfl, hst⟩
set_option maxHeartbeats 400000 in
theorem containsFunc_c {S M} (w : World) (hst : St S M w) (vs : Value) (xs : List Int) (hxs : RSl S vs xs) (hm : xs.length ≤ 1048576) (g : FuncId) (hg : Body Tryd.prog g) (ca : List Value) (p : Int → Bool)
    (hp : ∀ x w, I64 x → St S M w → Rets Tryd.prog g (.int .i64 x :: ca) w fun v w' => v = .bool (p x) ∧ St S M w') :
    Rets Tryd.prog 21 [vs, .func (.func g) #[] ca.toArray] w fun v w' => v = .bool (xs.any p) ∧ St S M w' := by
  unfold Rets
  have Hp := Lib.hid hp; clear hp
  go_enter Tryd.func21, Tryd.ntmps21
  repeat' (first | (((with_reducible refine Sl.k_call ?_; ((refine s_call (indexFunc_c w hst _ xs hxs hm g hg ca p Hp.out) inX rfl ?_; clear hst; rintro v w ⟨rfl, hst⟩)))) <;> (try refine nX ?_) <;> (try replace hst := nH hst)) | ((fail_if_success (go_big_may)); (go_step)) | (with_reducible refine Sl.gate rfl ?_; (go_step)))
  go_ret
  refine ⟨_, rfl, ?_, hst⟩
  show Value.bool (decide (idxOf p xs ≥ 0)) = _
  rw [← idxOf_any]
set_option maxHeartbeats 400000 in
theorem index_c {S M} (w : World) (hst : St S M w) (vs : Value) (xs : List Int) (hxs : RSl S vs xs) (hm : xs.length ≤ 1048576) (x : Int) :
    Rets Tryd.prog 62 [vs, .int .i64 x] w fun v w' => v = .int .i64 (idxOf (fun y => x == y) xs) ∧ St S M w' := by
  unfold Rets
  go_enter Tryd.func62, Tryd.ntmps62
  repeat' (first | ((fail_if_success (go_big_may)); (go_step)) | (((with_reducible refine Sl.k_call ?_; (refine s_qt hst (by exact qt_len evX asX inX) ?_))) <;> (try refine nX ?_)))
  go_loopw [8] (fun v wr => ∃ k : Nat, k ≤ xs.length ∧ v = .int .i64 k ∧ (∀ j (h : j < xs.length), j < k → (x == xs[j]) = false) ∧ St S M wr) (fun v _ => xs.length - (intOf v).toNat)
  case atStart => exact ⟨0, Nat.zero_le _, rfl, fun j _ h => by omega, hst⟩
  case round =>
    clear hst
    obtain ⟨k, hk, rfl, hn, hst⟩ := hrel
    have Hn := Lib.hid hn; clear hn
    by_cases hlt : k < xs.length
    · by_cases he : x = xs[k]
      · repeat' (first | ((fail_if_success (go_big_may)); (go_step)) | ((first | (with_reducible refine Sl.k_load ?_; ((refine s_ex hst (qt_ldp_int evX asX inX) ?_; rintro v ⟨rfl, hI⟩))) | (with_reducible refine Sl.k_index ?_; (((refine s_ex hst (qt_index evX asX rfl inX inX omX omX) ?_); rintro v hp; (try simp only [Int.toNat_natCast, Int.toNat_natCast_add_one, Int.reduceToNat] at hp))))) <;> (try refine nX ?_)) | (with_reducible refine Sl.gate rfl ?_; (go_step)))
        go_ret
        exact ⟨_, rfl, by rw [idxOf_some hlt Hn.out (by simpa using he)]; rfl, hst⟩
      · repeat' (first | ((fail_if_success (go_big_may)); (go_step)) | ((first | (with_reducible refine Sl.k_load ?_; ((refine s_ex hst (qt_ldp_int evX asX inX) ?_; rintro v ⟨rfl, hI⟩))) | (with_reducible refine Sl.k_index ?_; (((refine s_ex hst (qt_index evX asX rfl inX inX omX omX) ?_); rintro v hp; (try simp only [Int.toNat_natCast, Int.toNat_natCast_add_one, Int.reduceToNat] at hp))))) <;> (try refine nX ?_)) | (with_reducible refine Sl.gate rfl ?_; (go_step)))
        rename_i hf
        go_roundw
        case rel => exact ⟨k + 1, by omega, by go_num, fun j hj h => (by rcases Nat.lt_succ_iff_lt_or_eq.1 h with h | rfl; exact Hn.out j hj h; exact hf), hst⟩
        case measure => simp [intOf]; omega
    · repeat' (first | ((fail_if_success (go_big_may)); (go_step)) | (with_reducible refine Sl.gate rfl ?_; (go_step)))
      go_ret
      exact ⟨_, rfl, by rw [idxOf_none (fun j hj => Hn.out j hj (by omega))]; rfl, hst⟩
theorem contains_c {S M} (w : World) (hst : St S M w) (vs : Value) (xs : List Int) (hxs : RSl S vs xs) (hm : xs.length ≤ 1048576) (x : Int) :
    Rets Tryd.prog 61 [vs, .int .i64 x] w fun v w' => v = .bool (xs.contains x) ∧ St S M w' := by
  unfold Rets
  go_enter Tryd.func61, Tryd.ntmps61
  repeat' (first | (((with_reducible refine Sl.k_call ?_; ((refine s_call (index_c w hst _ xs hxs hm x) inX rfl ?_; clear hst; rintro v w ⟨rfl, hst⟩)))) <;> (try refine nX ?_) <;> (try replace hst := nH hst)) | ((fail_if_success (go_big_may)); (go_step)) | (with_reducible refine Sl.gate rfl ?_; (go_step)))
  go_ret
  refine ⟨_, rfl, ?_, hst⟩
  show Value.bool (decide (idxOf _ xs ≥ 0)) = _
  rw [show decide (idxOf (fun y => x == y) xs ≥ 0) = decide (0 ≤ idxOf (fun y => x == y) xs) from rfl, idxOf_any, List.contains_eq_any_beq]
theorem odd_c {S M} (w : World) (hst : St S M w) (x : Int) :
    Rets Tryd.prog 20 [.int .i64 x] w fun v w' => v = .bool (!decide (0 ≤ x ∧ x < 65536)) ∧ St S M w' := by
  unfold Rets
  by_cases h : x < 0 <;> by_cases h2 : 65536 ≤ x
  all_goals
    go_enter Tryd.func20, Tryd.ntmps20
    repeat' (first | go_skip | (((with_reducible refine Sl.k_guard ?_; ((refine Sl.guard_yes rfl ?_)))) <;> (try refine nX ?_)) | ((fail_if_success (go_big_may)); (go_step)) | (with_reducible refine Sl.gate rfl ?_; (go_step)))
    go_ret
    refine ⟨_, rfl, ?_, hst⟩
    first
    | (rw [decide_eq_false (by omega)]; rfl)
    | (rw [decide_eq_true (by omega)]; rfl)
abbrev codeVal (vi : Value) (c : CodeD) : Value := .agg #[vi, .int .i64 c.2.1, .int .i64 c.2.2.1]
set_option maxRecDepth 4000 in
set_option maxHeartbeats 1000000 in
theorem valid_c {S M} (w : World) (hst : St S M w) (vi : Value) (c : CodeD) (vs : Value) (inputs : List Int) (hin : RSl S vs inputs) (hm : inputs.length ≤ 1048576) :
    Rets Tryd.prog 16 [codeVal vi c, vs] w fun v w' => v = .bool (validV c inputs) ∧ St S M w' := by
  unfold Rets
  have hc := fun (M : List Chunk) (w : World) (hst : St S M w) => containsFunc_c w hst vs inputs hin hm 20 inferInstance [] (fun n => !decide (0 ≤ n ∧ n < 65536)) (fun x w _ hst => odd_c w hst x)
  have ha : inputs.all (fun n => decide (0 ≤ n ∧ n < 65536)) = !inputs.any (fun n => !decide (0 ≤ n ∧ n < 65536)) := by simp [List.all_eq_not_any_not]
  have hv : validV c inputs = (decide (0 ≤ c.2.2.1) && decide (c.2.2.1 ≤ 8) && decide ((inputs.length : Int) ≤ c.2.1) && decide (c.2.1 ≤ 400) && !inputs.any (fun n => !decide (0 ≤ n ∧ n < 65536))) := by rw [← ha]; rfl
  generalize inputs.any (fun n => !decide (0 ≤ n ∧ n < 65536)) = z at *
  rw [hv]
  clear hv ha
  by_cases h1 : 0 ≤ c.2.2.1
  · by_cases h2 : c.2.2.1 ≤ 8
    · by_cases h3 : (inputs.length : Int) ≤ c.2.1
      · by_cases h4 : c.2.1 ≤ 400
        all_goals
          go_enter Tryd.func16, Tryd.ntmps16
          repeat' (first | go_skip | (((with_reducible refine Sl.k_guard ?_; ((refine Sl.guard_yes rfl ?_)))) <;> (try refine nX ?_)) | (((with_reducible refine Sl.k_call ?_; ((refine s_call (hc _ w hst) inX rfl ?_; clear hst; rintro v w ⟨rfl, hst⟩)))) <;> (try refine nX ?_) <;> (try replace hst := nH hst)) | ((fail_if_success (go_big_may)); (go_step)) | ((first | (with_reducible refine Sl.k_load ?_; (refine s_qt hst (qt_load rfl _ BoxIn.h inX rfl rfl) ?_)) | (with_reducible refine Sl.k_field ?_; (refine s_qt hst (qt_field rfl inX) ?_)) | (with_reducible refine Sl.k_call ?_; (refine s_qt hst (by exact qt_len evX asX inX) ?_))) <;> (try refine nX ?_)) | (with_reducible refine Sl.gate rfl ?_; (go_step)) | (((((refine s_box hst evX rfl ?_; clear hst; intro bx w hst)))) <;> (try refine nX ?_) <;> (try replace hst := nH hst)))
          go_ret
          exact ⟨_, rfl, by simp [h1, h2, h3, h4], hst.drop⟩
      · go_enter Tryd.func16, Tryd.ntmps16
        repeat' (first | go_skip | (((with_reducible refine Sl.k_guard ?_; ((refine Sl.guard_yes rfl ?_)))) <;> (try refine nX ?_)) | ((fail_if_success (go_big_may)); (go_step)) | ((first | (with_reducible refine Sl.k_load ?_; (refine s_qt hst (qt_load rfl _ BoxIn.h inX rfl rfl) ?_)) | (with_reducible refine Sl.k_field ?_; (refine s_qt hst (qt_field rfl inX) ?_)) | (with_reducible refine Sl.k_call ?_; (refine s_qt hst (by exact qt_len evX asX inX) ?_))) <;> (try refine nX ?_)) | (with_reducible refine Sl.gate rfl ?_; (go_step)) | (((((refine s_box hst evX rfl ?_; clear hst; intro bx w hst)))) <;> (try refine nX ?_) <;> (try replace hst := nH hst)))
        go_ret
        exact ⟨_, rfl, by simp [h1, h2, h3], hst.drop⟩
    · go_enter Tryd.func16, Tryd.ntmps16
      repeat' (first | go_skip | (((with_reducible refine Sl.k_guard ?_; ((refine Sl.guard_yes rfl ?_)))) <;> (try refine nX ?_)) | ((fail_if_success (go_big_may)); (go_step)) | ((first | (with_reducible refine Sl.k_load ?_; (refine s_qt hst (qt_load rfl _ BoxIn.h inX rfl rfl) ?_)) | (with_reducible refine Sl.k_field ?_; (refine s_qt hst (qt_field rfl inX) ?_))) <;> (try refine nX ?_)) | (with_reducible refine Sl.gate rfl ?_; (go_step)) | (((((refine s_box hst evX rfl ?_; clear hst; intro bx w hst)))) <;> (try refine nX ?_) <;> (try replace hst := nH hst)))
      go_ret
      exact ⟨_, rfl, by simp [h1, h2], hst.drop⟩
  · go_enter Tryd.func16, Tryd.ntmps16
    repeat' (first | go_skip | ((fail_if_success (go_big_may)); (go_step)) | ((first | (with_reducible refine Sl.k_load ?_; (refine s_qt hst (qt_load rfl _ BoxIn.h inX rfl rfl) ?_)) | (with_reducible refine Sl.k_field ?_; (refine s_qt hst (qt_field rfl inX) ?_))) <;> (try refine nX ?_)) | (with_reducible refine Sl.gate rfl ?_; (go_step)) | (((((refine s_box hst evX rfl ?_; clear hst; intro bx w hst)))) <;> (try refine nX ?_) <;> (try replace hst := nH hst)))
    go_ret
    exact ⟨_, rfl, by simp [h1], hst.drop⟩
theorem or3I : ∀ a < 4, ∀ b < 4, bits .or .i64 ((a : Nat) : Int) ((b : Nat) : Int) = ((a ||| b : Nat) : Int) := by decide +kernel
theorem qt_orI {P : Program} {S : Snap} {M : List Chunk} {l : List Value} {T U : TypeId} {x y : Operand} {a b : Int} (hx : evF l x = .int .i64 a) (hy : evF l y = .int .i64 b) (ha : 0 ≤ a ∧ a ≤ 3) (hb : 0 ≤ b ∧ b ≤ 3) : Qt P l (.binOp .or T x y U) S M (.int .i64 (orV a b)) := fun dst ty pos af w _ => by
  have e : bits .or .i64 a b = orV a b := by
    have := or3I a.toNat (by omega) b.toNat (by omega)
    rw [Int.toNat_of_nonneg ha.1, Int.toNat_of_nonneg hb.1] at this
    exact this
  simp [execOp, hx, hy, eqGuard_at_int, binOp_or, intBits_or, e]
section
variable {S : Snap} {M : List Chunk} {b : Nat} {vi vg : Value} {c : CodeD} {s : VS} {vv vs vp vn : Value}
set_option maxRecDepth 8000 in
set_option maxHeartbeats 2000000 in
theorem branch_p (w : World) (hst : St S (MC b vi vg c s vv vs vp vn M) w) (gd : GoodV c s) (i : InsD) {gl : List Int} (hgl : RSl S vg gl) (hgm : gl.length ≤ 1048576) (hi : i.1 = 12) : StepP S M b vi vg c 51 [mPtr b, insVal i] w (execV gl c.2.2.1 i s) := by
  rw [execV_12 hi]
  unfold branchV
  have hs1 := gd.slen
  have hb1 := gd.br
  have hst1 := gd.steps
  have hpl := gd.plen
  simp only [MC, mC] at hst
  by_cases h : s.stack.length = 0
  · rw [if_pos h]
    show Pans _ _ _ _ _ _
    unfold Pans
    go_enter Tryd.func51, Tryd.ntmps51
    repeat' (first | (with_reducible refine Sl.k_call ?_; ((refine s_callP (pop_no _ b vi vg c s vv vs vp vn hst h) inX rfl ?_; clear hst; intro w hst; with_unfolding_all exact ⟨rfl, rfl, hst⟩))) | ((fail_if_success (go_big_may)); (go_step)) | (((((refine s_box hst evX rfl ?_; clear hst; intro bx w hst)))) <;> (try refine nX ?_) <;> (try replace hst := nH hst)))
  rw [if_neg h]
  by_cases hB : 0 ≤ i.2.2.1 ∧ i.2.2.1 < c.2.2.1
  · rw [if_pos hB]
    obtain ⟨hB1, hB2⟩ := hB
    have hlt : i.2.2.1.toNat < s.pts.length := by omega
    have e := getD_at hlt
    have hpin := gd.pts _ (List.getElem_mem hlt)
    have hn4 : (popV s).stack.length ≤ 400 := by simp; omega
    rw [e]
    have hd1 : decide (i.2.2.1 ≥ 0) = true := decide_eq_true hB1
    have hd2 : decide (i.2.2.1 < c.2.2.1) = true := decide_eq_true hB2
    have hcc := fun (M : List Chunk) (w : World) (hst : St S M w) => contains_c w hst vg gl hgl hgm (s.br : Int)
    obtain ⟨z, hz⟩ : ∃ z, gl.contains (s.br : Int) = z := ⟨_, rfl⟩
    rw [hz] at hcc ⊢
    have e3 : ∀ x, (setV s.pts i.2.2.1 x).length = s.pts.length := fun x => List.length_set
    have hd3 : (topV s != 0) = decide (topV s ≠ 0) := by by_cases h : topV s = 0 <;> simp [h]
    generalize hyt : decide (topV s ≠ 0) = y at *
    have hx : ∀ r1 r2 : VR, (if y ^^ z then r1 else r2) = bif y then (bif z then r2 else r1) else (bif z then r1 else r2) := by intro r1 r2; cases y <;> cases z <;> rfl
    simp only [hx]
    clear hx
    cases y <;> cases z
    all_goals
      simp only [cond_true, cond_false]
      show Rets _ _ _ _ _
      unfold Rets
      go_enter Tryd.func51, Tryd.ntmps51
      repeat' (first | (((with_reducible refine Sl.k_call ?_; ((refine s_call (pop_ok _ b vi vg c s vv vs vp vn hst h hs1) inX rfl ?_; clear hst; rintro v w ⟨rfl, vs1, hst⟩)))) <;> (try refine nX ?_) <;> (try replace hst := nH hst)) | ((fail_if_success (go_big_may)); (go_step)) | (with_reducible refine Sl.gate rfl ?_; (go_step)) | (((((refine s_box hst evX rfl ?_; clear hst; intro bx w hst)))) <;> (try refine nX ?_) <;> (try replace hst := nH hst)))
      refine region_tail 13 hst (by kernel_rfl) (by kernel_rfl) ?_
      simp only [List.take_succ_cons, List.take_zero, List.drop_succ_cons, List.drop_zero]
      repeat (((first | (with_reducible refine Sl.kq_guard ?_; (refine Sl.q_guard_yes rfl ?_)) | (with_reducible refine Sl.kq_load ?_; (refine q_qt (qt_load rfl _ BoxIn.h inX rfl rfl) ?_)) | (with_reducible refine Sl.kq_field ?_; (refine q_qt (qt_field rfl inX) ?_)) | (refine Sl.kq_plain rfl ?_; (first | (first | refine q_qt (qt_lss_b rfl rfl deX) ?_ | refine q_qt (qt_geq_b rfl rfl deX) ?_) | refine q_qt (qt_nil evX) ?_ | refine q_qt (by first | exact qt_move evX | exact qt_pick_t rfl evX) ?_))) <;> (try refine nX ?_)))
      refine q_nil ?_; clear hst; intro w hst
      repeat' (first | (((with_reducible refine Sl.k_call ?_; ((refine s_call (need_ok _ hst _ dtX 21) inX rfl ?_; clear hst; rintro v w ⟨rfl, hst⟩)))) <;> (try refine nX ?_) <;> (try replace hst := nH hst)) | ((fail_if_success (go_big_may)); (go_step)))
      refine region_quiet hst (by kernel_rfl) (by kernel_rfl) ?_
      repeat (((first | (with_reducible refine Sl.kq_load ?_; (refine q_qt (qt_load rfl _ BoxIn.h inX rfl rfl) ?_)) | (with_reducible refine Sl.kq_field ?_; (refine q_qt (qt_field rfl inX) ?_)) | (with_reducible refine Sl.kq_call ?_; ((refine q_call (fun w hst => hcc _ _ hst) inX rfl ?_))) | (refine Sl.kq_plain rfl ?_; (first | refine q_qt (qt_nil evX) ?_ | refine q_qt (by exact qt_move evX) ?_))) <;> (try refine nX ?_)))
      refine q_nil ?_; clear hst; intro w hst
      repeat' (first | ((fail_if_success (go_big_may)); (go_step)) | ((first | (with_reducible refine Sl.k_load ?_; (refine s_qt hst (qt_load rfl _ BoxIn.h inX rfl rfl) ?_)) | (with_reducible refine Sl.k_field ?_; (refine s_qt hst (qt_field rfl inX) ?_))) <;> (try refine nX ?_)) | (with_reducible refine Sl.gate rfl ?_; (go_step)) | (((((with_reducible refine Sl.k_store ?_; (refine s_store hst rfl _ BoxIn.h inX evX rfl lenOk oneOk (by simp) ?_); clear hst; intro w hst)))) <;> (try refine nX ?_) <;> (try replace hst := nH hst)))
      refine region_tail 10 hst (by kernel_rfl) (by kernel_rfl) ?_
      simp only [List.take_succ_cons, List.take_zero, List.drop_succ_cons, List.drop_zero]
      repeat (((first | (with_reducible refine Sl.kq_load ?_; (first | refine q_qt (qt_load rfl _ BoxIn.h inX rfl rfl) ?_ | refine q_qt (by exact qt_ldI evX asX SlIn.h inX omX) ?_)) | (with_reducible refine Sl.kq_field ?_; (refine q_qt (qt_field rfl inX) ?_)) | (with_reducible refine Sl.kq_index ?_; (((refine q_ex (qt_index_own hst evX SlIn.h rfl inX inX omX omX) ?_); rintro v hp; (try simp only [Int.toNat_natCast, Int.toNat_natCast_add_one, Int.reduceToNat] at hp)))) | (refine Sl.kq_plain rfl ?_; (first | refine q_qt (qt_nil evX) ?_ | refine q_qt (qt_orI rfl rfl hpin ⟨by decide, by decide⟩) ?_ | refine q_qt (by exact qt_move evX) ?_))) <;> (try refine nX ?_)))
      refine q_nil ?_; clear hst; intro w hst
      repeat' (first | ((fail_if_success (go_big_may)); (go_step)) | ((first | (with_reducible refine Sl.k_load ?_; (refine s_qt hst (qt_load rfl _ BoxIn.h inX rfl rfl) ?_)) | (with_reducible refine Sl.k_field ?_; (refine s_qt hst (qt_field rfl inX) ?_)) | (with_reducible refine Sl.k_index ?_; (((refine s_ex hst (qt_index_own hst evX SlIn.h rfl inX inX omX omX) ?_); rintro v hp; (try simp only [Int.toNat_natCast, Int.toNat_natCast_add_one, Int.reduceToNat] at hp))))) <;> (try refine nX ?_)) | (with_reducible refine Sl.gate rfl ?_; (go_step)) | (((((with_reducible refine Sl.k_store ?_; (first | refine s_store hst rfl _ BoxIn.h inX evX rfl lenOk oneOk (by simp) ?_ | refine s_stI hst evX asX SlIn.h inX evX omX ?_); clear hst; intro w hst)))) <;> (try refine nX ?_) <;> (try replace hst := nH hst)))
      first
      | (go_end0
         refine ⟨_, rfl, rfl, vv, vs1, vp, vn, ?_⟩
         simp only [MC, mC]
         rw [e3]
         exact hst.drop)
      | (refine bodyPost_ret (results_none rfl _ _ _) rfl ?_
         refine ⟨_, rfl, rfl, vv, vs1, vp, vn, ?_⟩
         simp only [MC, mC]
         rw [e3]
         exact hst.drop)
  · rw [if_neg hB]
    show Pans _ _ _ _ _ _
    unfold Pans
    by_cases hB1 : 0 ≤ i.2.2.1
    · have hB2 : ¬ i.2.2.1 < c.2.2.1 := fun h => hB ⟨hB1, h⟩
      have hd1 : decide (i.2.2.1 ≥ 0) = true := decide_eq_true hB1
      have hd2 : decide (i.2.2.1 < c.2.2.1) = false := decide_eq_false hB2
      go_enter Tryd.func51, Tryd.ntmps51
      repeat' (first | (((with_reducible refine Sl.k_call ?_; ((refine s_call (pop_ok _ b vi vg c s vv vs vp vn hst h hs1) inX rfl ?_; clear hst; rintro v w ⟨rfl, vs1, hst⟩)))) <;> (try refine nX ?_) <;> (try replace hst := nH hst)) | ((fail_if_success (go_big_may)); (go_step)) | (with_reducible refine Sl.gate rfl ?_; (go_step)) | (((((refine s_box hst evX rfl ?_; clear hst; intro bx w hst)))) <;> (try refine nX ?_) <;> (try replace hst := nH hst)))
      refine region_tail 13 hst (by kernel_rfl) (by kernel_rfl) ?_
      simp only [List.take_succ_cons, List.take_zero, List.drop_succ_cons, List.drop_zero]
      repeat (((first | (with_reducible refine Sl.kq_guard ?_; (refine Sl.q_guard_yes rfl ?_)) | (with_reducible refine Sl.kq_load ?_; (refine q_qt (qt_load rfl _ BoxIn.h inX rfl rfl) ?_)) | (with_reducible refine Sl.kq_field ?_; (refine q_qt (qt_field rfl inX) ?_)) | (refine Sl.kq_plain rfl ?_; (first | (first | refine q_qt (qt_lss_b rfl rfl deX) ?_ | refine q_qt (qt_geq_b rfl rfl deX) ?_) | refine q_qt (qt_nil evX) ?_ | refine q_qt (by first | exact qt_move evX | exact qt_pick_t rfl evX) ?_))) <;> (try refine nX ?_)))
      refine q_nil ?_; clear hst; intro w hst
      repeat' ((with_reducible refine Sl.k_call ?_; ((refine s_callP (need_no _ hst _ dfX 21) inX rfl ?_; clear hst; intro w hst; with_unfolding_all exact ⟨rfl, rfl, hst.drop.drop.drop.drop.drop.drop⟩))))
    · have hd1 : decide (i.2.2.1 ≥ 0) = false := decide_eq_false hB1
      go_enter Tryd.func51, Tryd.ntmps51
      repeat' (first | (((with_reducible refine Sl.k_call ?_; ((refine s_call (pop_ok _ b vi vg c s vv vs vp vn hst h hs1) inX rfl ?_; clear hst; rintro v w ⟨rfl, vs1, hst⟩)))) <;> (try refine nX ?_) <;> (try replace hst := nH hst)) | ((fail_if_success (go_big_may)); (go_step)) | (with_reducible refine Sl.gate rfl ?_; (go_step)) | (((((refine s_box hst evX rfl ?_; clear hst; intro bx w hst)))) <;> (try refine nX ?_) <;> (try replace hst := nH hst)))
      refine region_tail 13 hst (by kernel_rfl) (by kernel_rfl) ?_
      simp only [List.take_succ_cons, List.take_zero, List.drop_succ_cons, List.drop_zero]
      repeat (((first | (with_reducible refine Sl.kq_guard ?_; (refine Sl.q_guard_no rfl ?_)) | (with_reducible refine Sl.kq_load ?_; (refine q_qt (qt_load rfl _ BoxIn.h inX rfl rfl) ?_)) | (with_reducible refine Sl.kq_field ?_; (refine q_qt (qt_field rfl inX) ?_)) | (refine Sl.kq_plain rfl ?_; (first | (refine q_qt (qt_geq_b rfl rfl deX) ?_) | refine q_qt (by first | exact qt_move evX | exact qt_pick_f rfl evX) ?_))) <;> (try refine nX ?_)))
      refine q_nil ?_; clear hst; intro w hst
      repeat' ((with_reducible refine Sl.k_call ?_; ((refine s_callP (need_no _ hst _ dfX 21) inX rfl ?_; clear hst; intro w hst; with_unfolding_all exact ⟨rfl, rfl, hst.drop.drop.drop.drop.drop.drop⟩))))
end
end Go.Proofs.YtmbdbfdlbbkclaaDoor
