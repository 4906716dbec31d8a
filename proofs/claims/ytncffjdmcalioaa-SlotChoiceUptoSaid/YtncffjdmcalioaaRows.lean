/-
  No cell of these rows narrows 'for every input' (looked for: loops, veiled, ifaces, maps, wideKeys, modest, calm, conditions, laid).
  DERIVED. THE GIVEN ROWS OF THIS SEAT. 7 by the template 'for every input the law returns true; each argument reads behind the call as it read before'; 0 by the template 'total and deterministic' (their statements: YtncffjdmcalioaaTotals.lean).
  GIVEN WITH THE SEED: the statements are not yours to turn. If you find one false, say at which input.
  Laid BY PROGRAM, IN A SANDBOX (cutbox-rows.mjs): the forced cells as the released guide's own fill.sh prints them over the translation 30936daa27750eca… (all of the seat's roots in one cut). By AI agents, Wed Nov 11 2026. No macro, syntax, notation, axiom, sorry.
-/
import Derived.Test.YtncffjdmcalioaaChecked
import GoSem.Claim
import GoSem.ClaimJoined
import GoSem.ClaimMapViews
import Derived.JoinedTies
import Derived.KernelRfl
namespace Go.Proofs.Ytncffjdmcalioaa
/- THE CELL 'sum', in the pinned program and in every row, IS THE sha256 OF THE DUMP (.gsa) THAT YtncffjdmcalioaaProg.lean LOADS. Nothing in Lean hashes anything: it is a label: what it is worth is what the hold of that sum in a sandbox is worth. -/
noncomputable def Try.pinned : Pinned := { name := "ytncffjdmcalioaa", sum := "30936daa27750eca6c62fecee087f624ec237245b8ba0ed6a90f6e9ef9ec14e6", checked := Try.checked }
namespace Rows
def none {H : Type} : Left H := { results := [], args := [] }

/-- 'bootchainlaw25.SlotMatchesSpec': WHATEVER THE INPUT: true; the input reads as it did. -/
def slotMatchesSpecSpec : ChangeSpec := { name := "slotMatchesSpec", fn := fun _ => fun
  | [d1, d2, d3, d4] => { results := [.lit (.bool true)], args := [d1, d2, d3, d4] }
  | _ => none }
def slotMatchesSpecRow : OpenClaim := { program := "ytncffjdmcalioaa", sum := "30936daa27750eca6c62fecee087f624ec237245b8ba0ed6a90f6e9ef9ec14e6", func := "bootchain/bootchainlaw25.SlotMatchesSpec", spec := "slotMatchesSpec", unfollowed := true, recurses := true, apart := false }
def SlotMatchesSpecSaid : Prop := slotMatchesSpecRow.holds Try.pinned (OpenSpec.ofChange slotMatchesSpecSpec)

/-- ITS FALSE NEIGHBOUR: 'it returns false'. Refute it at one input. -/
def slotMatchesSpecWrong : ChangeSpec := { name := "slotMatchesSpec", fn := fun _ => fun
  | [d1, d2, d3, d4] => { results := [.lit (.bool false)], args := [d1, d2, d3, d4] }
  | _ => none }
def SlotMatchesSpecWrongFalsely : Prop := slotMatchesSpecRow.holds Try.pinned (OpenSpec.ofChange slotMatchesSpecWrong)

/-- 'bootchainlaw25.SlotEncoding': WHATEVER THE INPUT: true; the input reads as it did. -/
def slotEncodingSpec : ChangeSpec := { name := "slotEncoding", fn := fun _ => fun
  | [d1, d2] => { results := [.lit (.bool true)], args := [d1, d2] }
  | _ => none }
def slotEncodingRow : OpenClaim := { program := "ytncffjdmcalioaa", sum := "30936daa27750eca6c62fecee087f624ec237245b8ba0ed6a90f6e9ef9ec14e6", func := "bootchain/bootchainlaw25.SlotEncoding", spec := "slotEncoding", unfollowed := true, recurses := true, apart := false }
def SlotEncodingSaid : Prop := slotEncodingRow.holds Try.pinned (OpenSpec.ofChange slotEncodingSpec)

/-- ITS FALSE NEIGHBOUR: 'it returns false'. Refute it at one input. -/
def slotEncodingWrong : ChangeSpec := { name := "slotEncoding", fn := fun _ => fun
  | [d1, d2] => { results := [.lit (.bool false)], args := [d1, d2] }
  | _ => none }
def SlotEncodingWrongFalsely : Prop := slotEncodingRow.holds Try.pinned (OpenSpec.ofChange slotEncodingWrong)

/-- 'bootchainlaw25.SlotChoice': WHATEVER THE INPUT: true; the input reads as it did. -/
def slotChoiceSpec : ChangeSpec := { name := "slotChoice", fn := fun _ => fun
  | [d1, d2] => { results := [.lit (.bool true)], args := [d1, d2] }
  | _ => none }
def slotChoiceRow : OpenClaim := { program := "ytncffjdmcalioaa", sum := "30936daa27750eca6c62fecee087f624ec237245b8ba0ed6a90f6e9ef9ec14e6", func := "bootchain/bootchainlaw25.SlotChoice", spec := "slotChoice", unfollowed := true, recurses := true, apart := false }
def SlotChoiceSaid : Prop := slotChoiceRow.holds Try.pinned (OpenSpec.ofChange slotChoiceSpec)

/-- ITS FALSE NEIGHBOUR: 'it returns false'. Refute it at one input. -/
def slotChoiceWrong : ChangeSpec := { name := "slotChoice", fn := fun _ => fun
  | [d1, d2] => { results := [.lit (.bool false)], args := [d1, d2] }
  | _ => none }
def SlotChoiceWrongFalsely : Prop := slotChoiceRow.holds Try.pinned (OpenSpec.ofChange slotChoiceWrong)

/-- 'bootchainlaw25.SlotValid': WHATEVER THE INPUT: true; the input reads as it did. -/
def slotValidSpec : ChangeSpec := { name := "slotValid", fn := fun _ => fun
  | [d1, d2] => { results := [.lit (.bool true)], args := [d1, d2] }
  | _ => none }
def slotValidRow : OpenClaim := { program := "ytncffjdmcalioaa", sum := "30936daa27750eca6c62fecee087f624ec237245b8ba0ed6a90f6e9ef9ec14e6", func := "bootchain/bootchainlaw25.SlotValid", spec := "slotValid", unfollowed := true, recurses := true, apart := false }
def SlotValidSaid : Prop := slotValidRow.holds Try.pinned (OpenSpec.ofChange slotValidSpec)

/-- ITS FALSE NEIGHBOUR: 'it returns false'. Refute it at one input. -/
def slotValidWrong : ChangeSpec := { name := "slotValid", fn := fun _ => fun
  | [d1, d2] => { results := [.lit (.bool false)], args := [d1, d2] }
  | _ => none }
def SlotValidWrongFalsely : Prop := slotValidRow.holds Try.pinned (OpenSpec.ofChange slotValidWrong)

/-- 'bootchainlaw25.SlotKeepsConfirmed': WHATEVER THE INPUT: true; the input reads as it did. -/
def slotKeepsConfirmedSpec : ChangeSpec := { name := "slotKeepsConfirmed", fn := fun _ => fun
  | [d1, d2] => { results := [.lit (.bool true)], args := [d1, d2] }
  | _ => none }
def slotKeepsConfirmedRow : OpenClaim := { program := "ytncffjdmcalioaa", sum := "30936daa27750eca6c62fecee087f624ec237245b8ba0ed6a90f6e9ef9ec14e6", func := "bootchain/bootchainlaw25.SlotKeepsConfirmed", spec := "slotKeepsConfirmed", unfollowed := true, recurses := true, apart := false }
def SlotKeepsConfirmedSaid : Prop := slotKeepsConfirmedRow.holds Try.pinned (OpenSpec.ofChange slotKeepsConfirmedSpec)

/-- ITS FALSE NEIGHBOUR: 'it returns false'. Refute it at one input. -/
def slotKeepsConfirmedWrong : ChangeSpec := { name := "slotKeepsConfirmed", fn := fun _ => fun
  | [d1, d2] => { results := [.lit (.bool false)], args := [d1, d2] }
  | _ => none }
def SlotKeepsConfirmedWrongFalsely : Prop := slotKeepsConfirmedRow.holds Try.pinned (OpenSpec.ofChange slotKeepsConfirmedWrong)

/-- 'bootchainlaw25.SlotTries': WHATEVER THE INPUT: true; the input reads as it did. -/
def slotTriesSpec : ChangeSpec := { name := "slotTries", fn := fun _ => fun
  | [d1, d2, d3, d4] => { results := [.lit (.bool true)], args := [d1, d2, d3, d4] }
  | _ => none }
def slotTriesRow : OpenClaim := { program := "ytncffjdmcalioaa", sum := "30936daa27750eca6c62fecee087f624ec237245b8ba0ed6a90f6e9ef9ec14e6", func := "bootchain/bootchainlaw25.SlotTries", spec := "slotTries", unfollowed := true, recurses := true, apart := false }
def SlotTriesSaid : Prop := slotTriesRow.holds Try.pinned (OpenSpec.ofChange slotTriesSpec)

/-- ITS FALSE NEIGHBOUR: 'it returns false'. Refute it at one input. -/
def slotTriesWrong : ChangeSpec := { name := "slotTries", fn := fun _ => fun
  | [d1, d2, d3, d4] => { results := [.lit (.bool false)], args := [d1, d2, d3, d4] }
  | _ => none }
def SlotTriesWrongFalsely : Prop := slotTriesRow.holds Try.pinned (OpenSpec.ofChange slotTriesWrong)

/-- 'bootchainlaw25.SlotFallback': WHATEVER THE INPUT: true; the input reads as it did. -/
def slotFallbackSpec : ChangeSpec := { name := "slotFallback", fn := fun _ => fun
  | [d1, d2, d3, d4] => { results := [.lit (.bool true)], args := [d1, d2, d3, d4] }
  | _ => none }
def slotFallbackRow : OpenClaim := { program := "ytncffjdmcalioaa", sum := "30936daa27750eca6c62fecee087f624ec237245b8ba0ed6a90f6e9ef9ec14e6", func := "bootchain/bootchainlaw25.SlotFallback", spec := "slotFallback", unfollowed := true, recurses := true, apart := false }
def SlotFallbackSaid : Prop := slotFallbackRow.holds Try.pinned (OpenSpec.ofChange slotFallbackSpec)

/-- ITS FALSE NEIGHBOUR: 'it returns false'. Refute it at one input. -/
def slotFallbackWrong : ChangeSpec := { name := "slotFallback", fn := fun _ => fun
  | [d1, d2, d3, d4] => { results := [.lit (.bool false)], args := [d1, d2, d3, d4] }
  | _ => none }
def SlotFallbackWrongFalsely : Prop := slotFallbackRow.holds Try.pinned (OpenSpec.ofChange slotFallbackWrong)

/- THE SECOND FORM. 'bulk': how many values and letters a reading holds, each counted each time it is reached (what is shared counts as often as it is met; a slice's spare places count too). A statement '..UptoSaid' is the law's where the arguments, and the package variables that the reading takes, are together of bulk at most 1048576: NARROWER than '..Said'. Prove '..Said' where nothing that the law and all that it calls make is longer than what came in: it says more and counts as full. Else prove '..UptoSaid'. A law counts once. -/
mutual
def uptoBulk {H : Type} : DataW H → Nat
  | .lit (.string bytes) => bytes.length + 1
  | .lit _ => 1
  | .nil => 1
  | .ptr d => uptoBulk d + 1
  | .slice elems spare => uptoBulkAll elems + uptoBulkAll spare + 1
  | .agg parts => uptoBulkAll parts + 1
  | .iface _ d => uptoBulk d + 1
  | .map entries => uptoBulkEntries entries + 1
  | .held _ => 1
def uptoBulkAll {H : Type} : List (DataW H) → Nat
  | [] => 0
  | d :: r => uptoBulk d + uptoBulkAll r
def uptoBulkEntries {H : Type} : List (Lit × DataW H) → Nat
  | [] => 0
  | x :: r => uptoBulkEntry x + uptoBulkEntries r
def uptoBulkEntry {H : Type} : Lit × DataW H → Nat
  | (.string bytes, d) => bytes.length + uptoBulk d + 1
  | (_, d) => uptoBulk d + 1
 end
def uptoSmall : (H : Type) → List (DataW H) → Bool := fun _ ds => decide (uptoBulkAll ds ≤ 1048576)
def OpenSpec.upto (s : _root_.Go.ChangeSpec) : _root_.Go.OpenSpec := { _root_.Go.OpenSpec.ofChange s with cond := some uptoSmall }

/-- 'bootchainlaw25.SlotMatchesSpec', WHERE WHAT IT READS IS OF BULK AT MOST 1048576: true; the input reads as it did. -/
def slotMatchesSpecUptoRow : OpenClaim := { program := "ytncffjdmcalioaa", sum := "30936daa27750eca6c62fecee087f624ec237245b8ba0ed6a90f6e9ef9ec14e6", func := "bootchain/bootchainlaw25.SlotMatchesSpec", spec := "slotMatchesSpec", unfollowed := true, recurses := true, apart := false, narrowed := true }
def SlotMatchesSpecUptoSaid : Prop := slotMatchesSpecUptoRow.holds Try.pinned (OpenSpec.upto slotMatchesSpecSpec)

/-- 'bootchainlaw25.SlotEncoding', WHERE WHAT IT READS IS OF BULK AT MOST 1048576: true; the input reads as it did. -/
def slotEncodingUptoRow : OpenClaim := { program := "ytncffjdmcalioaa", sum := "30936daa27750eca6c62fecee087f624ec237245b8ba0ed6a90f6e9ef9ec14e6", func := "bootchain/bootchainlaw25.SlotEncoding", spec := "slotEncoding", unfollowed := true, recurses := true, apart := false, narrowed := true }
def SlotEncodingUptoSaid : Prop := slotEncodingUptoRow.holds Try.pinned (OpenSpec.upto slotEncodingSpec)

/-- 'bootchainlaw25.SlotChoice', WHERE WHAT IT READS IS OF BULK AT MOST 1048576: true; the input reads as it did. -/
def slotChoiceUptoRow : OpenClaim := { program := "ytncffjdmcalioaa", sum := "30936daa27750eca6c62fecee087f624ec237245b8ba0ed6a90f6e9ef9ec14e6", func := "bootchain/bootchainlaw25.SlotChoice", spec := "slotChoice", unfollowed := true, recurses := true, apart := false, narrowed := true }
def SlotChoiceUptoSaid : Prop := slotChoiceUptoRow.holds Try.pinned (OpenSpec.upto slotChoiceSpec)

/-- 'bootchainlaw25.SlotValid', WHERE WHAT IT READS IS OF BULK AT MOST 1048576: true; the input reads as it did. -/
def slotValidUptoRow : OpenClaim := { program := "ytncffjdmcalioaa", sum := "30936daa27750eca6c62fecee087f624ec237245b8ba0ed6a90f6e9ef9ec14e6", func := "bootchain/bootchainlaw25.SlotValid", spec := "slotValid", unfollowed := true, recurses := true, apart := false, narrowed := true }
def SlotValidUptoSaid : Prop := slotValidUptoRow.holds Try.pinned (OpenSpec.upto slotValidSpec)

/-- 'bootchainlaw25.SlotKeepsConfirmed', WHERE WHAT IT READS IS OF BULK AT MOST 1048576: true; the input reads as it did. -/
def slotKeepsConfirmedUptoRow : OpenClaim := { program := "ytncffjdmcalioaa", sum := "30936daa27750eca6c62fecee087f624ec237245b8ba0ed6a90f6e9ef9ec14e6", func := "bootchain/bootchainlaw25.SlotKeepsConfirmed", spec := "slotKeepsConfirmed", unfollowed := true, recurses := true, apart := false, narrowed := true }
def SlotKeepsConfirmedUptoSaid : Prop := slotKeepsConfirmedUptoRow.holds Try.pinned (OpenSpec.upto slotKeepsConfirmedSpec)

/-- 'bootchainlaw25.SlotTries', WHERE WHAT IT READS IS OF BULK AT MOST 1048576: true; the input reads as it did. -/
def slotTriesUptoRow : OpenClaim := { program := "ytncffjdmcalioaa", sum := "30936daa27750eca6c62fecee087f624ec237245b8ba0ed6a90f6e9ef9ec14e6", func := "bootchain/bootchainlaw25.SlotTries", spec := "slotTries", unfollowed := true, recurses := true, apart := false, narrowed := true }
def SlotTriesUptoSaid : Prop := slotTriesUptoRow.holds Try.pinned (OpenSpec.upto slotTriesSpec)

/-- 'bootchainlaw25.SlotFallback', WHERE WHAT IT READS IS OF BULK AT MOST 1048576: true; the input reads as it did. -/
def slotFallbackUptoRow : OpenClaim := { program := "ytncffjdmcalioaa", sum := "30936daa27750eca6c62fecee087f624ec237245b8ba0ed6a90f6e9ef9ec14e6", func := "bootchain/bootchainlaw25.SlotFallback", spec := "slotFallback", unfollowed := true, recurses := true, apart := false, narrowed := true }
def SlotFallbackUptoSaid : Prop := slotFallbackUptoRow.holds Try.pinned (OpenSpec.upto slotFallbackSpec)

end Rows
end Go.Proofs.Ytncffjdmcalioaa
