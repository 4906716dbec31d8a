/-
  No cell of these rows narrows 'for every input' (looked for: loops, veiled, ifaces, maps, wideKeys, modest, calm, conditions, laid).
  DERIVED. THE GIVEN ROWS OF THIS SEAT. 4 by the template 'for every input the law returns true; each argument reads behind the call as it read before'; 0 by the template 'total and deterministic' (their statements: YtajmfdnmckbclaaTotals.lean).
  GIVEN WITH THE SEED: the statements are not yours to turn. If you find one false, say at which input.
  Laid BY PROGRAM, IN A SANDBOX (cutbox-rows.mjs): the forced cells as the released guide's own fill.sh prints them over the translation 0a4395d32a9e07cd… (all of the seat's roots in one cut). By AI agents, Wed Nov 11 2026. No macro, syntax, notation, axiom, sorry.
-/
import Derived.Test.YtajmfdnmckbclaaChecked
import GoSem.Claim
import GoSem.ClaimJoined
import GoSem.ClaimMapViews
import Derived.JoinedTies
import Derived.KernelRfl
namespace Go.Proofs.Ytajmfdnmckbclaa
/- THE CELL 'sum', in the pinned program and in every row, IS THE sha256 OF THE DUMP (.gsa) THAT YtajmfdnmckbclaaProg.lean LOADS. Nothing in Lean hashes anything: it is a label: what it is worth is what the hold of that sum in a sandbox is worth. -/
noncomputable def Try.pinned : Pinned := { name := "ytajmfdnmckbclaa", sum := "0a4395d32a9e07cdc3b2754237479ebbe2c13128f4347c9ea4b1a658ae4f57b0", checked := Try.checked }
namespace Rows
def none {H : Type} : Left H := { results := [], args := [] }

/-- 'bootchainlaw15.GraphTree': WHATEVER THE INPUT: true; the input reads as it did. -/
def graphTreeSpec : ChangeSpec := { name := "graphTree", fn := fun _ => fun
  | [d] => { results := [.lit (.bool true)], args := [d] }
  | _ => none }
def graphTreeRow : OpenClaim := { program := "ytajmfdnmckbclaa", sum := "0a4395d32a9e07cdc3b2754237479ebbe2c13128f4347c9ea4b1a658ae4f57b0", func := "bootchain/bootchainlaw15.GraphTree", spec := "graphTree", unfollowed := true, recurses := true, apart := false }
def GraphTreeSaid : Prop := graphTreeRow.holds Try.pinned (OpenSpec.ofChange graphTreeSpec)

/-- ITS FALSE NEIGHBOUR: 'it returns false'. Refute it at one input. -/
def graphTreeWrong : ChangeSpec := { name := "graphTree", fn := fun _ => fun
  | [d] => { results := [.lit (.bool false)], args := [d] }
  | _ => none }
def GraphTreeWrongFalsely : Prop := graphTreeRow.holds Try.pinned (OpenSpec.ofChange graphTreeWrong)

/-- 'bootchainlaw15.GraphSound': WHATEVER THE INPUT: true; the input reads as it did. -/
def graphSoundSpec : ChangeSpec := { name := "graphSound", fn := fun _ => fun
  | [d1, d2, d3] => { results := [.lit (.bool true)], args := [d1, d2, d3] }
  | _ => none }
def graphSoundRow : OpenClaim := { program := "ytajmfdnmckbclaa", sum := "0a4395d32a9e07cdc3b2754237479ebbe2c13128f4347c9ea4b1a658ae4f57b0", func := "bootchain/bootchainlaw15.GraphSound", spec := "graphSound", unfollowed := true, recurses := true, apart := false }
def GraphSoundSaid : Prop := graphSoundRow.holds Try.pinned (OpenSpec.ofChange graphSoundSpec)

/-- ITS FALSE NEIGHBOUR: 'it returns false'. Refute it at one input. -/
def graphSoundWrong : ChangeSpec := { name := "graphSound", fn := fun _ => fun
  | [d1, d2, d3] => { results := [.lit (.bool false)], args := [d1, d2, d3] }
  | _ => none }
def GraphSoundWrongFalsely : Prop := graphSoundRow.holds Try.pinned (OpenSpec.ofChange graphSoundWrong)

/-- 'bootchainlaw15.GraphContradiction': WHATEVER THE INPUT: true; the input reads as it did. -/
def graphContradictionSpec : ChangeSpec := { name := "graphContradiction", fn := fun _ => fun
  | [d1, d2] => { results := [.lit (.bool true)], args := [d1, d2] }
  | _ => none }
def graphContradictionRow : OpenClaim := { program := "ytajmfdnmckbclaa", sum := "0a4395d32a9e07cdc3b2754237479ebbe2c13128f4347c9ea4b1a658ae4f57b0", func := "bootchain/bootchainlaw15.GraphContradiction", spec := "graphContradiction", unfollowed := true, recurses := true, apart := false }
def GraphContradictionSaid : Prop := graphContradictionRow.holds Try.pinned (OpenSpec.ofChange graphContradictionSpec)

/-- ITS FALSE NEIGHBOUR: 'it returns false'. Refute it at one input. -/
def graphContradictionWrong : ChangeSpec := { name := "graphContradiction", fn := fun _ => fun
  | [d1, d2] => { results := [.lit (.bool false)], args := [d1, d2] }
  | _ => none }
def GraphContradictionWrongFalsely : Prop := graphContradictionRow.holds Try.pinned (OpenSpec.ofChange graphContradictionWrong)

/-- 'bootchainlaw15.GraphIdempotent': WHATEVER THE INPUT: true; the input reads as it did. -/
def graphIdempotentSpec : ChangeSpec := { name := "graphIdempotent", fn := fun _ => fun
  | [d1, d2] => { results := [.lit (.bool true)], args := [d1, d2] }
  | _ => none }
def graphIdempotentRow : OpenClaim := { program := "ytajmfdnmckbclaa", sum := "0a4395d32a9e07cdc3b2754237479ebbe2c13128f4347c9ea4b1a658ae4f57b0", func := "bootchain/bootchainlaw15.GraphIdempotent", spec := "graphIdempotent", unfollowed := true, recurses := true, apart := false }
def GraphIdempotentSaid : Prop := graphIdempotentRow.holds Try.pinned (OpenSpec.ofChange graphIdempotentSpec)

/-- ITS FALSE NEIGHBOUR: 'it returns false'. Refute it at one input. -/
def graphIdempotentWrong : ChangeSpec := { name := "graphIdempotent", fn := fun _ => fun
  | [d1, d2] => { results := [.lit (.bool false)], args := [d1, d2] }
  | _ => none }
def GraphIdempotentWrongFalsely : Prop := graphIdempotentRow.holds Try.pinned (OpenSpec.ofChange graphIdempotentWrong)

/- THE SECOND FORM. 'bulk': how many values and letters a reading holds, each counted each time it is reached (what is shared counts as often as it is met; a slice's spare places count too). A statement '..UptoSaid' is the law's where the arguments, and the package variables that the reading takes, are together of bulk at most 1048576: NARROWER than '..Said'. Prove '..Said' where nothing that the law and all that it calls make is longer than what came in: it says more and counts as full. Else prove '..UptoSaid'. A law counts once. -/
mutual
def uptoBulk {H : Type} : DataW H → Nat
  | .lit (.string bytes) => bytes.length + 1
  | .lit _ => 1
  | .nil => 1
  | .ptr d => uptoBulk d + 1
  | .slice elems spare => uptoBulkAll elems + uptoBulkAll spare + 1
  | .agg parts => uptoBulkAll parts + 1
  | .iface _ d => uptoBulk d + 1
  | .map entries => uptoBulkEntries entries + 1
  | .held _ => 1
def uptoBulkAll {H : Type} : List (DataW H) → Nat
  | [] => 0
  | d :: r => uptoBulk d + uptoBulkAll r
def uptoBulkEntries {H : Type} : List (Lit × DataW H) → Nat
  | [] => 0
  | x :: r => uptoBulkEntry x + uptoBulkEntries r
def uptoBulkEntry {H : Type} : Lit × DataW H → Nat
  | (.string bytes, d) => bytes.length + uptoBulk d + 1
  | (_, d) => uptoBulk d + 1
 end
def uptoSmall : (H : Type) → List (DataW H) → Bool := fun _ ds => decide (uptoBulkAll ds ≤ 1048576)
def OpenSpec.upto (s : _root_.Go.ChangeSpec) : _root_.Go.OpenSpec := { _root_.Go.OpenSpec.ofChange s with cond := some uptoSmall }

/-- 'bootchainlaw15.GraphTree', WHERE WHAT IT READS IS OF BULK AT MOST 1048576: true; the input reads as it did. -/
def graphTreeUptoRow : OpenClaim := { program := "ytajmfdnmckbclaa", sum := "0a4395d32a9e07cdc3b2754237479ebbe2c13128f4347c9ea4b1a658ae4f57b0", func := "bootchain/bootchainlaw15.GraphTree", spec := "graphTree", unfollowed := true, recurses := true, apart := false, narrowed := true }
def GraphTreeUptoSaid : Prop := graphTreeUptoRow.holds Try.pinned (OpenSpec.upto graphTreeSpec)

/-- 'bootchainlaw15.GraphSound', WHERE WHAT IT READS IS OF BULK AT MOST 1048576: true; the input reads as it did. -/
def graphSoundUptoRow : OpenClaim := { program := "ytajmfdnmckbclaa", sum := "0a4395d32a9e07cdc3b2754237479ebbe2c13128f4347c9ea4b1a658ae4f57b0", func := "bootchain/bootchainlaw15.GraphSound", spec := "graphSound", unfollowed := true, recurses := true, apart := false, narrowed := true }
def GraphSoundUptoSaid : Prop := graphSoundUptoRow.holds Try.pinned (OpenSpec.upto graphSoundSpec)

/-- 'bootchainlaw15.GraphContradiction', WHERE WHAT IT READS IS OF BULK AT MOST 1048576: true; the input reads as it did. -/
def graphContradictionUptoRow : OpenClaim := { program := "ytajmfdnmckbclaa", sum := "0a4395d32a9e07cdc3b2754237479ebbe2c13128f4347c9ea4b1a658ae4f57b0", func := "bootchain/bootchainlaw15.GraphContradiction", spec := "graphContradiction", unfollowed := true, recurses := true, apart := false, narrowed := true }
def GraphContradictionUptoSaid : Prop := graphContradictionUptoRow.holds Try.pinned (OpenSpec.upto graphContradictionSpec)

/-- 'bootchainlaw15.GraphIdempotent', WHERE WHAT IT READS IS OF BULK AT MOST 1048576: true; the input reads as it did. -/
def graphIdempotentUptoRow : OpenClaim := { program := "ytajmfdnmckbclaa", sum := "0a4395d32a9e07cdc3b2754237479ebbe2c13128f4347c9ea4b1a658ae4f57b0", func := "bootchain/bootchainlaw15.GraphIdempotent", spec := "graphIdempotent", unfollowed := true, recurses := true, apart := false, narrowed := true }
def GraphIdempotentUptoSaid : Prop := graphIdempotentUptoRow.holds Try.pinned (OpenSpec.upto graphIdempotentSpec)

end Rows
end Go.Proofs.Ytajmfdnmckbclaa
