/- The types of this program, as the rules ask of them. Written by a program of ours. -/
import Derived.Test.YtajmfdnmckbclaaRows
import Derived.Test.YtajmfdnmckbclaaSlK
import Derived.Test.YtajmfdnmckbclaaSlI
namespace Go.Proofs.Ytajmfdnmckbclaa
set_option linter.unusedSimpArgs false
set_option linter.unusedVariables false
open Go.Sl

instance ty3 : Ty Try.prog 3 false 1 [.int .i64 0] 8 := ⟨by kernel_rfl, by kernel_rfl, rfl, rfl, rfl, by simp⟩
instance ty4 : Ty Try.prog 4 false 1 [.bool false] 1 := ⟨by kernel_rfl, by kernel_rfl, rfl, rfl, rfl, by simp⟩
instance ty5 : Ty Try.prog 5 false 1 [.int .u8 0] 1 := ⟨by kernel_rfl, by kernel_rfl, rfl, rfl, rfl, by simp⟩
instance ty9 : Ty Try.prog 9 false 1 [.string ByteArray.empty] 16 := ⟨by kernel_rfl, by kernel_rfl, rfl, rfl, rfl, by simp⟩
instance ty22 : Ty Try.prog 22 false 1 [.slice none 0 0] 24 := ⟨by kernel_rfl, by kernel_rfl, rfl, rfl, rfl, by simp⟩
instance sl22 : SlT Try.prog 22 69 := ⟨by kernel_rfl⟩
instance ty23 : Ty Try.prog 23 false 1 [.slice none 0 0] 24 := ⟨by kernel_rfl, by kernel_rfl, rfl, rfl, rfl, by simp⟩
instance sl23 : SlT Try.prog 23 41 := ⟨by kernel_rfl⟩
instance ty25 : Ty Try.prog 25 true 4 [.slice none 0 0, .slice none 0 0, .int .i64 0, .int .i64 0] 64 := ⟨by kernel_rfl, by kernel_rfl, rfl, rfl, rfl, by simp⟩
instance fld25_0 : FldT Try.prog 25 0 0 := ⟨by kernel_rfl⟩
instance fld25_1 : FldT Try.prog 25 1 1 := ⟨by kernel_rfl⟩
instance fld25_2 : FldT Try.prog 25 2 2 := ⟨by kernel_rfl⟩
instance fld25_3 : FldT Try.prog 25 3 3 := ⟨by kernel_rfl⟩
instance ty28 : Ty Try.prog 28 false 1 [.slice none 0 0] 24 := ⟨by kernel_rfl, by kernel_rfl, rfl, rfl, rfl, by simp⟩
instance sl28 : SlT Try.prog 28 30 := ⟨by kernel_rfl⟩
instance ty30 : Ty Try.prog 30 true 2 [.int .i64 0, .int .i64 0] 16 := ⟨by kernel_rfl, by kernel_rfl, rfl, rfl, rfl, by simp⟩
instance arr30 : ArrT Try.prog 30 2 3 := ⟨by kernel_rfl⟩
instance ty31 : Ty Try.prog 31 false 1 [.slice none 0 0] 24 := ⟨by kernel_rfl, by kernel_rfl, rfl, rfl, rfl, by simp⟩
instance sl31 : SlT Try.prog 31 3 := ⟨by kernel_rfl⟩
instance ty41 : Ty Try.prog 41 true 4 [.int .i64 0, .int .i64 0, .string ByteArray.empty, .slice none 0 0] 56 := ⟨by kernel_rfl, by kernel_rfl, rfl, rfl, rfl, by simp⟩
instance fld41_0 : FldT Try.prog 41 0 0 := ⟨by kernel_rfl⟩
instance fld41_1 : FldT Try.prog 41 1 1 := ⟨by kernel_rfl⟩
instance fld41_2 : FldT Try.prog 41 2 2 := ⟨by kernel_rfl⟩
instance fld41_3 : FldT Try.prog 41 3 3 := ⟨by kernel_rfl⟩
instance ty43 : Ty Try.prog 43 false 1 [.slice none 0 0] 24 := ⟨by kernel_rfl, by kernel_rfl, rfl, rfl, rfl, by simp⟩
instance sl43 : SlT Try.prog 43 4 := ⟨by kernel_rfl⟩
instance ty69 : Ty Try.prog 69 true 4 [.string ByteArray.empty, .int .i64 0, .int .i64 0, .int .i64 0] 40 := ⟨by kernel_rfl, by kernel_rfl, rfl, rfl, rfl, by simp⟩
instance fld69_0 : FldT Try.prog 69 0 0 := ⟨by kernel_rfl⟩
instance fld69_1 : FldT Try.prog 69 1 1 := ⟨by kernel_rfl⟩
instance fld69_2 : FldT Try.prog 69 2 2 := ⟨by kernel_rfl⟩
instance fld69_3 : FldT Try.prog 69 3 3 := ⟨by kernel_rfl⟩
instance fn3 : Body Try.prog 3 := ⟨by kernel_rfl⟩  -- bootchain/bootchainlaw15.GraphTree
instance fn4 : Body Try.prog 4 := ⟨by kernel_rfl⟩  -- bootchain/bootchainlaw15.GraphSound
instance fn5 : Body Try.prog 5 := ⟨by kernel_rfl⟩  -- bootchain/bootchainlaw15.GraphContradiction
instance fn6 : Body Try.prog 6 := ⟨by kernel_rfl⟩  -- bootchain/bootchainlaw15.GraphIdempotent
instance fn7 : Body Try.prog 7 := ⟨by kernel_rfl⟩  -- bootchain/bootchainlaw15.sanity
instance fn8 : Body Try.prog 8 := ⟨by kernel_rfl⟩  -- bootchain/bootchainref15.Small
instance fn9 : Body Try.prog 9 := ⟨by kernel_rfl⟩  -- bootchain/graph.Enclosing
instance fn10 : Body Try.prog 10 := ⟨by kernel_rfl⟩  -- bootchain/graph.Possible
instance fn11 : Body Try.prog 11 := ⟨by kernel_rfl⟩  -- bootchain/bootchainlaw15.hide
instance fn12 : Body Try.prog 12 := ⟨by kernel_rfl⟩  -- bootchain/graph.Infer
instance fn13 : Body Try.prog 13 := ⟨by kernel_rfl⟩  -- bootchain/bootchainref15.Ints
instance fn14 : Body Try.prog 14 := ⟨by kernel_rfl⟩  -- bootchain/bootchainlaw15.sample
instance fn15 : Body Try.prog 15 := ⟨by kernel_rfl⟩  -- bootchain/bootchainref15.Pairs
instance fn16 : Body Try.prog 16 := ⟨by kernel_rfl⟩  -- bootchain/graph.points
instance fn17 : Body Try.prog 17 := ⟨by kernel_rfl⟩  -- bootchain/graph.outermost
instance fn18 : Body Try.prog 18 := ⟨by kernel_rfl⟩  -- bootchain/graph.Enclosing$1
instance fn19 : Body Try.prog 19 := ⟨by kernel_rfl⟩  -- bootchain/graph.valid
instance fn20 : Body Try.prog 20 := ⟨by kernel_rfl⟩  -- bootchain/graph.shut
instance fn21 : Body Try.prog 21 := ⟨by kernel_rfl⟩  -- slices.Clone[[]int,int]
instance fn22 : Body Try.prog 22 := ⟨by kernel_rfl⟩  -- slices.ContainsFunc[[]int,int]
instance fn23 : Body Try.prog 23 := ⟨by kernel_rfl⟩  -- bootchain/graph.valid$1
instance fn24 : Body Try.prog 24 := ⟨by kernel_rfl⟩  -- slices.IndexFunc[[]int,int]
instance key3 : Key Try.prog 3 Int 1 := key_int (by kernel_rfl)
instance key30 : Key Try.prog 30 (Int × Int) 2 := key_pair inferInstance (by kernel_rfl) (by kernel_rfl) (by decide)
instance eq30 : EqTy Try.prog 30 := ⟨by kernel_rfl, by kernel_rfl, by kernel_rfl⟩
end Go.Proofs.Ytajmfdnmckbclaa
