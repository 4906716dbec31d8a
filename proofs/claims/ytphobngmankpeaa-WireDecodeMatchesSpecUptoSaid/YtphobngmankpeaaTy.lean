/- The types of this program, as the rules ask of them. Written by a program of ours. -/
import Derived.Test.YtphobngmankpeaaRows
import Derived.Test.YtphobngmankpeaaSlK
import Derived.Test.YtphobngmankpeaaSlI
import Derived.Test.YtphobngmankpeaaSlT
import Derived.Test.YtphobngmankpeaaSlN
namespace Go.Proofs.Ytphobngmankpeaa
set_option linter.unusedSimpArgs false
set_option linter.unusedVariables false
open Go.Sl

instance ty3 : Ty Try.prog 3 false 1 [.int .i64 0] 8 := ⟨by kernel_rfl, by kernel_rfl, rfl, rfl, rfl, by simp⟩
instance ty4 : Ty Try.prog 4 false 1 [.bool false] 1 := ⟨by kernel_rfl, by kernel_rfl, rfl, rfl, rfl, by simp⟩
instance bool4 : BoolT Try.prog 4 := ⟨by kernel_rfl⟩
instance ty5 : Ty Try.prog 5 false 1 [.int .u8 0] 1 := ⟨by kernel_rfl, by kernel_rfl, rfl, rfl, rfl, by simp⟩
instance ty9 : Ty Try.prog 9 false 1 [.string ByteArray.empty] 16 := ⟨by kernel_rfl, by kernel_rfl, rfl, rfl, rfl, by simp⟩
instance ty22 : Ty Try.prog 22 false 1 [.slice none 0 0] 24 := ⟨by kernel_rfl, by kernel_rfl, rfl, rfl, rfl, by simp⟩
instance sl22 : SlT Try.prog 22 3 := ⟨by kernel_rfl⟩
instance ty23 : Ty Try.prog 23 false 1 [.slice none 0 0] 24 := ⟨by kernel_rfl, by kernel_rfl, rfl, rfl, rfl, by simp⟩
instance sl23 : SlT Try.prog 23 51 := ⟨by kernel_rfl⟩
instance ty26 : Ty Try.prog 26 false 1 [.slice none 0 0] 24 := ⟨by kernel_rfl, by kernel_rfl, rfl, rfl, rfl, by simp⟩
instance sl26 : SlT Try.prog 26 5 := ⟨by kernel_rfl⟩
instance ty32 : Ty Try.prog 32 false 1 [.int .i64 0] 8 := ⟨by kernel_rfl, by kernel_rfl, rfl, rfl, rfl, by simp⟩
instance ty47 : Ty Try.prog 47 false 1 [.slice none 0 0] 24 := ⟨by kernel_rfl, by kernel_rfl, rfl, rfl, rfl, by simp⟩
instance sl47 : SlT Try.prog 47 26 := ⟨by kernel_rfl⟩
instance ty50 : Ty Try.prog 50 true 16 [.int .u8 0, .int .u8 0, .int .u8 0, .int .u8 0, .int .u8 0, .int .u8 0, .int .u8 0, .int .u8 0, .int .u8 0, .int .u8 0, .int .u8 0, .int .u8 0, .int .u8 0, .int .u8 0, .int .u8 0, .int .u8 0] 16 := ⟨by kernel_rfl, by kernel_rfl, rfl, rfl, rfl, by simp⟩
instance arr50 : ArrT Try.prog 50 16 5 := ⟨by kernel_rfl⟩
instance ty51 : Ty Try.prog 51 true 16 [.int .u8 0, .int .u8 0, .int .u8 0, .int .u8 0, .int .u8 0, .int .u8 0, .int .u8 0, .int .u8 0, .int .u8 0, .int .u8 0, .int .u8 0, .int .u8 0, .int .u8 0, .int .u8 0, .int .u8 0, .int .u8 0] 16 := ⟨by kernel_rfl, by kernel_rfl, rfl, rfl, rfl, by simp⟩
instance arr51 : ArrT Try.prog 51 16 5 := ⟨by kernel_rfl⟩
instance ty52 : Ty Try.prog 52 false 1 [.int .u64 0] 8 := ⟨by kernel_rfl, by kernel_rfl, rfl, rfl, rfl, by simp⟩
instance ty53 : Ty Try.prog 53 false 1 [.int .u64 0] 8 := ⟨by kernel_rfl, by kernel_rfl, rfl, rfl, rfl, by simp⟩
instance fn3 : Body Try.prog 3 := ⟨by kernel_rfl⟩  -- bootchain/bootchainlaw01.WireEncodeMatchesSpec
instance fn4 : Body Try.prog 4 := ⟨by kernel_rfl⟩  -- bootchain/bootchainlaw01.WireDecodeMatchesSpec
instance fn5 : Body Try.prog 5 := ⟨by kernel_rfl⟩  -- bootchain/bootchainlaw01.WireIntRoundTrip
instance fn6 : Body Try.prog 6 := ⟨by kernel_rfl⟩  -- bootchain/bootchainlaw01.WireCanonical
instance fn7 : Body Try.prog 7 := ⟨by kernel_rfl⟩  -- bootchain/bootchainlaw01.WireListRoundTrip
instance fn8 : Body Try.prog 8 := ⟨by kernel_rfl⟩  -- bootchain/bootchainlaw01.WireTruncated
instance fn9 : Body Try.prog 9 := ⟨by kernel_rfl⟩  -- bootchain/bootchainlaw01.WireInjective
instance fn10 : Body Try.prog 10 := ⟨by kernel_rfl⟩  -- bootchain/bootchainlaw01.WireConcat
instance fn11 : Body Try.prog 11 := ⟨by kernel_rfl⟩  -- bootchain/bootchainlaw01.sanity
instance fn12 : Body Try.prog 12 := ⟨by kernel_rfl⟩  -- bootchain/bootchainref01.Same
instance fn13 : Body Try.prog 13 := ⟨by kernel_rfl⟩  -- bootchain/wire.Int
instance fn14 : Body Try.prog 14 := ⟨by kernel_rfl⟩  -- bootchain/bootchainref01.Int
instance fn15 : Body Try.prog 15 := ⟨by kernel_rfl⟩  -- bootchain/wire.Bytes
instance fn16 : Body Try.prog 16 := ⟨by kernel_rfl⟩  -- bootchain/bootchainref01.Bytes
instance fn17 : Body Try.prog 17 := ⟨by kernel_rfl⟩  -- bootchain/wire.Ints
instance fn18 : Body Try.prog 18 := ⟨by kernel_rfl⟩  -- bootchain/bootchainref01.Ints
instance fn19 : Body Try.prog 19 := ⟨by kernel_rfl⟩  -- bootchain/wire.Digests
instance fn20 : Body Try.prog 20 := ⟨by kernel_rfl⟩  -- bootchain/bootchainref01.Digests
instance fn21 : Body Try.prog 21 := ⟨by kernel_rfl⟩  -- bootchain/wire.GetInt
instance fn22 : Body Try.prog 22 := ⟨by kernel_rfl⟩  -- bootchain/bootchainref01.GetInt
instance fn23 : Body Try.prog 23 := ⟨by kernel_rfl⟩  -- bootchain/wire.GetBytes
instance fn24 : Body Try.prog 24 := ⟨by kernel_rfl⟩  -- bootchain/bootchainref01.GetBytes
instance fn25 : Body Try.prog 25 := ⟨by kernel_rfl⟩  -- bootchain/wire.GetInts
instance fn26 : Body Try.prog 26 := ⟨by kernel_rfl⟩  -- bootchain/bootchainref01.GetInts
instance fn27 : Body Try.prog 27 := ⟨by kernel_rfl⟩  -- bootchain/bootchainref01.SameInts
instance fn28 : Body Try.prog 28 := ⟨by kernel_rfl⟩  -- bootchain/wire.GetDigests
instance fn29 : Body Try.prog 29 := ⟨by kernel_rfl⟩  -- bootchain/bootchainref01.GetDigests
instance fn30 : Body Try.prog 30 := ⟨by kernel_rfl⟩  -- bootchain/bootchainref01.SameDigests
instance fn31 : Body Try.prog 31 := ⟨by kernel_rfl⟩  -- bootchain/bootchainlaw01.WireCanonical$1
instance fn32 : Body Try.prog 32 := ⟨by kernel_rfl⟩  -- bootchain/bootchainref01.zigzag
instance fn33 : Body Try.prog 33 := ⟨by kernel_rfl⟩  -- bootchain/bootchainref01.length
instance fn34 : Body Try.prog 34 := ⟨by kernel_rfl⟩  -- bootchain/wire.count
instance fn35 : Body Try.prog 35 := ⟨by kernel_rfl⟩  -- bootchain/bootchainref01.count
instance fn36 : Body Try.prog 36 := ⟨by kernel_rfl⟩  -- bootchain/wire.reader
instance fn37 : Body Try.prog 37 := ⟨by kernel_rfl⟩  -- bootchain/wire.reader$1
end Go.Proofs.Ytphobngmankpeaa
