/- The types of this program, as the rules ask of them. Written by a program of ours. -/
import Derived.Test.YtncffjdmcalioaaRows
import Derived.Test.YtncffjdmcalioaaSlK
import Derived.Test.YtncffjdmcalioaaSlI
import Derived.Test.YtncffjdmcalioaaSlT
import Derived.Test.YtncffjdmcalioaaSlN
namespace Go.Proofs.Ytncffjdmcalioaa
set_option linter.unusedSimpArgs false
set_option linter.unusedVariables false
open Go.Sl

instance ty3 : Ty Try.prog 3 false 1 [.int .i64 0] 8 := ⟨by kernel_rfl, by kernel_rfl, rfl, rfl, rfl, by simp⟩
instance ty4 : Ty Try.prog 4 false 1 [.bool false] 1 := ⟨by kernel_rfl, by kernel_rfl, rfl, rfl, rfl, by simp⟩
instance bool4 : BoolT Try.prog 4 := ⟨by kernel_rfl⟩
instance ty5 : Ty Try.prog 5 false 1 [.int .u8 0] 1 := ⟨by kernel_rfl, by kernel_rfl, rfl, rfl, rfl, by simp⟩
instance ty9 : Ty Try.prog 9 false 1 [.string ByteArray.empty] 16 := ⟨by kernel_rfl, by kernel_rfl, rfl, rfl, rfl, by simp⟩
instance ty22 : Ty Try.prog 22 true 3 [.int .i64 0, .int .i64 0, .int .i64 0] 24 := ⟨by kernel_rfl, by kernel_rfl, rfl, rfl, rfl, by simp⟩
instance fld22_0 : FldT Try.prog 22 0 0 := ⟨by kernel_rfl⟩
instance fld22_1 : FldT Try.prog 22 1 1 := ⟨by kernel_rfl⟩
instance fld22_2 : FldT Try.prog 22 2 2 := ⟨by kernel_rfl⟩
instance str22 : StructT Try.prog 22 [(0, 1), (1, 1), (2, 1)] := ⟨by kernel_rfl⟩
instance ty23 : Ty Try.prog 23 true 3 [.int .i64 0, .int .i64 0, .int .i64 0] 24 := ⟨by kernel_rfl, by kernel_rfl, rfl, rfl, rfl, by simp⟩
instance fld23_0 : FldT Try.prog 23 0 0 := ⟨by kernel_rfl⟩
instance fld23_1 : FldT Try.prog 23 1 1 := ⟨by kernel_rfl⟩
instance fld23_2 : FldT Try.prog 23 2 2 := ⟨by kernel_rfl⟩
instance str23 : StructT Try.prog 23 [(0, 1), (1, 1), (2, 1)] := ⟨by kernel_rfl⟩
instance ty24 : Ty Try.prog 24 true 6 [.int .i64 0, .int .i64 0, .int .i64 0, .int .i64 0, .int .i64 0, .int .i64 0] 48 := ⟨by kernel_rfl, by kernel_rfl, rfl, rfl, rfl, by simp⟩
instance arr24 : ArrT Try.prog 24 2 23 := ⟨by kernel_rfl⟩
instance ty25 : Ty Try.prog 25 true 6 [.int .i64 0, .int .i64 0, .int .i64 0, .int .i64 0, .int .i64 0, .int .i64 0] 48 := ⟨by kernel_rfl, by kernel_rfl, rfl, rfl, rfl, by simp⟩
instance fld25_0 : FldT Try.prog 25 0 0 := ⟨by kernel_rfl⟩
instance str25 : StructT Try.prog 25 [(0, 6)] := ⟨by kernel_rfl⟩
instance ty26 : Ty Try.prog 26 true 6 [.int .i64 0, .int .i64 0, .int .i64 0, .int .i64 0, .int .i64 0, .int .i64 0] 48 := ⟨by kernel_rfl, by kernel_rfl, rfl, rfl, rfl, by simp⟩
instance fld26_0 : FldT Try.prog 26 0 0 := ⟨by kernel_rfl⟩
instance str26 : StructT Try.prog 26 [(0, 6)] := ⟨by kernel_rfl⟩
instance ty27 : Ty Try.prog 27 false 1 [.int .i64 0] 8 := ⟨by kernel_rfl, by kernel_rfl, rfl, rfl, rfl, by simp⟩
instance ty40 : Ty Try.prog 40 false 1 [.slice none 0 0] 24 := ⟨by kernel_rfl, by kernel_rfl, rfl, rfl, rfl, by simp⟩
instance sl40 : SlT Try.prog 40 42 := ⟨by kernel_rfl⟩
instance ty41 : Ty Try.prog 41 true 3 [.int .u8 0, .int .u8 0, .int .u8 0] 3 := ⟨by kernel_rfl, by kernel_rfl, rfl, rfl, rfl, by simp⟩
instance fld41_0 : FldT Try.prog 41 0 0 := ⟨by kernel_rfl⟩
instance fld41_1 : FldT Try.prog 41 1 1 := ⟨by kernel_rfl⟩
instance fld41_2 : FldT Try.prog 41 2 2 := ⟨by kernel_rfl⟩
instance str41 : StructT Try.prog 41 [(0, 1), (1, 1), (2, 1)] := ⟨by kernel_rfl⟩
instance ty42 : Ty Try.prog 42 true 3 [.int .u8 0, .int .u8 0, .int .u8 0] 3 := ⟨by kernel_rfl, by kernel_rfl, rfl, rfl, rfl, by simp⟩
instance fld42_0 : FldT Try.prog 42 0 0 := ⟨by kernel_rfl⟩
instance fld42_1 : FldT Try.prog 42 1 1 := ⟨by kernel_rfl⟩
instance fld42_2 : FldT Try.prog 42 2 2 := ⟨by kernel_rfl⟩
instance str42 : StructT Try.prog 42 [(0, 1), (1, 1), (2, 1)] := ⟨by kernel_rfl⟩
instance ty50 : Ty Try.prog 50 true 2 [.nilFunc, .nilFunc] 16 := ⟨by kernel_rfl, by kernel_rfl, rfl, rfl, rfl, by simp⟩
instance fld50_0 : FldT Try.prog 50 0 0 := ⟨by kernel_rfl⟩
instance fld50_1 : FldT Try.prog 50 1 1 := ⟨by kernel_rfl⟩
instance str50 : StructT Try.prog 50 [(0, 1), (1, 1)] := ⟨by kernel_rfl⟩
instance ty51 : Ty Try.prog 51 true 2 [.nilFunc, .nilFunc] 16 := ⟨by kernel_rfl, by kernel_rfl, rfl, rfl, rfl, by simp⟩
instance fld51_0 : FldT Try.prog 51 0 0 := ⟨by kernel_rfl⟩
instance fld51_1 : FldT Try.prog 51 1 1 := ⟨by kernel_rfl⟩
instance str51 : StructT Try.prog 51 [(0, 1), (1, 1)] := ⟨by kernel_rfl⟩
instance ty52 : Ty Try.prog 52 false 1 [.slice none 0 0] 24 := ⟨by kernel_rfl, by kernel_rfl, rfl, rfl, rfl, by simp⟩
instance sl52 : SlT Try.prog 52 38 := ⟨by kernel_rfl⟩
instance ty54 : Ty Try.prog 54 false 1 [.slice none 0 0] 24 := ⟨by kernel_rfl, by kernel_rfl, rfl, rfl, rfl, by simp⟩
instance sl54 : SlT Try.prog 54 3 := ⟨by kernel_rfl⟩
instance ty57 : Ty Try.prog 57 false 1 [.slice none 0 0] 24 := ⟨by kernel_rfl, by kernel_rfl, rfl, rfl, rfl, by simp⟩
instance sl57 : SlT Try.prog 57 5 := ⟨by kernel_rfl⟩
instance ty66 : Ty Try.prog 66 false 1 [.int .u64 0] 8 := ⟨by kernel_rfl, by kernel_rfl, rfl, rfl, rfl, by simp⟩
instance ty38 : Ty Try.prog 38 false 1 [.nilFunc] 8 := ⟨by kernel_rfl, by kernel_rfl, rfl, rfl, rfl, by simp⟩
instance ty48 : Ty Try.prog 48 false 1 [.nilFunc] 8 := ⟨by kernel_rfl, by kernel_rfl, rfl, rfl, rfl, by simp⟩
instance ty49 : Ty Try.prog 49 false 1 [.nilFunc] 8 := ⟨by kernel_rfl, by kernel_rfl, rfl, rfl, rfl, by simp⟩
instance fn3 : Body Try.prog 3 := ⟨by kernel_rfl⟩  -- bootchain/bootchainlaw25.SlotMatchesSpec
instance fn4 : Body Try.prog 4 := ⟨by kernel_rfl⟩  -- bootchain/bootchainlaw25.SlotEncoding
instance fn5 : Body Try.prog 5 := ⟨by kernel_rfl⟩  -- bootchain/bootchainlaw25.SlotChoice
instance fn6 : Body Try.prog 6 := ⟨by kernel_rfl⟩  -- bootchain/bootchainlaw25.SlotValid
instance fn7 : Body Try.prog 7 := ⟨by kernel_rfl⟩  -- bootchain/bootchainlaw25.SlotKeepsConfirmed
instance fn8 : Body Try.prog 8 := ⟨by kernel_rfl⟩  -- bootchain/bootchainlaw25.SlotTries
instance fn9 : Body Try.prog 9 := ⟨by kernel_rfl⟩  -- bootchain/bootchainlaw25.SlotFallback
instance fn10 : Body Try.prog 10 := ⟨by kernel_rfl⟩  -- bootchain/slot.Clear
instance fn11 : Body Try.prog 11 := ⟨by kernel_rfl⟩  -- bootchain/bootchainref25.Clear
instance fn12 : Body Try.prog 12 := ⟨by kernel_rfl⟩  -- bootchain/slot.Stage
instance fn13 : Body Try.prog 13 := ⟨by kernel_rfl⟩  -- bootchain/bootchainref25.Stage
instance fn14 : Body Try.prog 14 := ⟨by kernel_rfl⟩  -- bootchain/slot.Begin
instance fn15 : Body Try.prog 15 := ⟨by kernel_rfl⟩  -- bootchain/bootchainref25.Begin
instance fn16 : Body Try.prog 16 := ⟨by kernel_rfl⟩  -- bootchain/slot.Confirm
instance fn17 : Body Try.prog 17 := ⟨by kernel_rfl⟩  -- bootchain/bootchainref25.Confirm
instance fn18 : Body Try.prog 18 := ⟨by kernel_rfl⟩  -- bootchain/slot.Fail
instance fn19 : Body Try.prog 19 := ⟨by kernel_rfl⟩  -- bootchain/bootchainref25.Fail
instance fn20 : Body Try.prog 20 := ⟨by kernel_rfl⟩  -- bootchain/bootchainlaw25.sanity
instance fn21 : Body Try.prog 21 := ⟨by kernel_rfl⟩  -- bootchain/slot.Valid
instance fn22 : Body Try.prog 22 := ⟨by kernel_rfl⟩  -- bootchain/bootchainref25.Valid
instance fn23 : Body Try.prog 23 := ⟨by kernel_rfl⟩  -- bootchain/slot.Choose
instance fn24 : Body Try.prog 24 := ⟨by kernel_rfl⟩  -- bootchain/bootchainref25.Choose
instance fn25 : Body Try.prog 25 := ⟨by kernel_rfl⟩  -- bootchain/slot.Decode
instance fn26 : Body Try.prog 26 := ⟨by kernel_rfl⟩  -- bootchain/bootchainref25.Decode
instance fn27 : Body Try.prog 27 := ⟨by kernel_rfl⟩  -- bootchain/slot.Encode
instance fn28 : Body Try.prog 28 := ⟨by kernel_rfl⟩  -- bootchain/bootchainref25.Encode
instance fn29 : Body Try.prog 29 := ⟨by kernel_rfl⟩  -- bootchain/bootchainlaw25.SlotChoice$1
instance fn30 : Body Try.prog 30 := ⟨by kernel_rfl⟩  -- bootchain/bootchainlaw25.SlotChoice$2
instance fn31 : Body Try.prog 31 := ⟨by kernel_rfl⟩  -- bootchain/bootchainlaw25.apply
instance fn32 : Body Try.prog 32 := ⟨by kernel_rfl⟩  -- bootchain/bootchainlaw25.SlotKeepsConfirmed$1
instance fn33 : Body Try.prog 33 := ⟨by kernel_rfl⟩  -- bootchain/slot.apply
instance fn34 : Body Try.prog 34 := ⟨by kernel_rfl⟩  -- bootchain/slot.replaceable
instance fn35 : Body Try.prog 35 := ⟨by kernel_rfl⟩  -- bootchain/slot.Clear$1
instance fn36 : Body Try.prog 36 := ⟨by kernel_rfl⟩  -- bootchain/bootchainref25.wrong
instance fn37 : Body Try.prog 37 := ⟨by kernel_rfl⟩  -- bootchain/bootchainref25.kept
instance fn38 : Body Try.prog 38 := ⟨by kernel_rfl⟩  -- bootchain/slot.Stage$1
instance fn39 : Body Try.prog 39 := ⟨by kernel_rfl⟩  -- bootchain/slot.Begin$1
instance fn40 : Body Try.prog 40 := ⟨by kernel_rfl⟩  -- bootchain/slot.pending
instance fn41 : Body Try.prog 41 := ⟨by kernel_rfl⟩  -- bootchain/slot.Begin$2
instance fn42 : Body Try.prog 42 := ⟨by kernel_rfl⟩  -- bootchain/slot.Confirm$1
instance fn43 : Body Try.prog 43 := ⟨by kernel_rfl⟩  -- bootchain/slot.confirmed
instance fn44 : Body Try.prog 44 := ⟨by kernel_rfl⟩  -- bootchain/slot.Confirm$2
instance fn45 : Body Try.prog 45 := ⟨by kernel_rfl⟩  -- bootchain/slot.Fail$1
instance fn46 : Body Try.prog 46 := ⟨by kernel_rfl⟩  -- bootchain/slot.Fail$2
instance fn47 : Body Try.prog 47 := ⟨by kernel_rfl⟩  -- bootchain/bootchainref25.rank
instance fn48 : Body Try.prog 48 := ⟨by kernel_rfl⟩  -- bootchain/wire.GetInts
instance fn49 : Body Try.prog 49 := ⟨by kernel_rfl⟩  -- bootchain/bootchainref01.GetInts
instance fn50 : Body Try.prog 50 := ⟨by kernel_rfl⟩  -- bootchain/wire.Ints
instance fn51 : Body Try.prog 51 := ⟨by kernel_rfl⟩  -- bootchain/bootchainref01.Ints
instance fn52 : Body Try.prog 52 := ⟨by kernel_rfl⟩  -- bootchain/wire.count
instance fn53 : Body Try.prog 53 := ⟨by kernel_rfl⟩  -- bootchain/wire.reader
instance fn54 : Body Try.prog 54 := ⟨by kernel_rfl⟩  -- bootchain/bootchainref01.count
instance fn55 : Body Try.prog 55 := ⟨by kernel_rfl⟩  -- bootchain/bootchainref01.GetInt
instance fn56 : Body Try.prog 56 := ⟨by kernel_rfl⟩  -- bootchain/wire.Int
instance fn57 : Body Try.prog 57 := ⟨by kernel_rfl⟩  -- bootchain/bootchainref01.Int
instance fn58 : Body Try.prog 58 := ⟨by kernel_rfl⟩  -- bootchain/wire.GetInt
instance fn59 : Body Try.prog 59 := ⟨by kernel_rfl⟩  -- bootchain/wire.reader$1
instance fn60 : Body Try.prog 60 := ⟨by kernel_rfl⟩  -- bootchain/bootchainref01.length
instance fn61 : Body Try.prog 61 := ⟨by kernel_rfl⟩  -- bootchain/bootchainref01.Same
instance fn62 : Body Try.prog 62 := ⟨by kernel_rfl⟩  -- bootchain/bootchainref01.zigzag
end Go.Proofs.Ytncffjdmcalioaa
