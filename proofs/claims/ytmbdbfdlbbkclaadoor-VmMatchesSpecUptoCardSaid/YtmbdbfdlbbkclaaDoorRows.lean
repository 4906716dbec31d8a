/-
  NARROWER THAN 'FOR EVERY INPUT', by the rows' own cells (each row's printed sentence says how): VmMatchesSpec: laid · VmOutcomeIsValid: laid · VmGlitchBeyondEnd: laid · VmIgnoresUnreachedCode: laid · VmArithmetic: laid · VmLoops: laid.
  DERIVED. THE GIVEN ROWS OF THIS SEAT. 6 by the template 'for every input the law returns true; each argument reads behind the call as it read before'; 0 by the template 'total and deterministic' (their statements: YtmbdbfdlbbkclaaDoorTotals.lean).
  GIVEN WITH THE SEED: the statements are not yours to turn. If you find one false, say at which input.
  Laid BY PROGRAM, IN A SANDBOX (cutbox-rows.mjs): the forced cells as the released guide's own fill.sh prints them over the translation 63d3e79f0ed7727c… (all of the seat's roots in one cut). By AI agents, Wed Nov 11 2026. No macro, syntax, notation, axiom, sorry.
-/
import Derived.Test.YtmbdbfdlbbkclaaDoorChecked
import GoSem.Claim
import GoSem.ClaimJoined
import GoSem.ClaimMapViews
import Derived.JoinedTies
import Derived.KernelRfl
namespace Go.Proofs.YtmbdbfdlbbkclaaDoor
/- THE CELL 'sum', in the pinned program and in every row, IS THE sha256 OF THE DUMP (.gsa) THAT YtmbdbfdlbbkclaaDoorProg.lean LOADS. Nothing in Lean hashes anything: it is a label: what it is worth is what the hold of that sum in a sandbox is worth. -/
noncomputable def Tryd.pinned : Pinned := { name := "ytmbdbfdlbbkclaadoor", sum := "63d3e79f0ed7727c2edb8434cc75554f2b9738624367674350d732c195b4d3ae", checked := Tryd.checked }
namespace Rows
def none {H : Type} : Left H := { results := [], args := [] }

/- WHAT THE LISTED PACKAGE-LEVEL VARIABLES READ AS WHEN THE CALL BEGINS. Each datum BY PROGRAM (the guide's laid-datum.mjs) off the statement by which the dump's own 'gosem.cut.vars' lays the variable. In a bare row this is a premise. The card (YtmbdbfdlbbkclaaDoorCards.lean) ties it to the program's text. -/
def laid_bootchain_vm_instructions {H : Type} : DataW H := .iface "func table" (.agg [.nil, .iface "func" (.lit (.string [40, 42, 98, 111, 111, 116, 99, 104, 97, 105, 110, 47, 118, 109, 46, 109, 97, 99, 104, 105, 110, 101, 41, 46, 99, 111, 110, 115, 116, 97, 110, 116])), .iface "func" (.lit (.string [40, 42, 98, 111, 111, 116, 99, 104, 97, 105, 110, 47, 118, 109, 46, 109, 97, 99, 104, 105, 110, 101, 41, 46, 108, 111, 97, 100])), .iface "func" (.lit (.string [40, 42, 98, 111, 111, 116, 99, 104, 97, 105, 110, 47, 118, 109, 46, 109, 97, 99, 104, 105, 110, 101, 41, 46, 115, 116, 111, 114, 101])), .iface "func" (.lit (.string [40, 42, 98, 111, 111, 116, 99, 104, 97, 105, 110, 47, 118, 109, 46, 109, 97, 99, 104, 105, 110, 101, 41, 46, 98, 105, 110, 97, 114, 121])), .iface "func" (.lit (.string [40, 42, 98, 111, 111, 116, 99, 104, 97, 105, 110, 47, 118, 109, 46, 109, 97, 99, 104, 105, 110, 101, 41, 46, 98, 105, 110, 97, 114, 121])), .iface "func" (.lit (.string [40, 42, 98, 111, 111, 116, 99, 104, 97, 105, 110, 47, 118, 109, 46, 109, 97, 99, 104, 105, 110, 101, 41, 46, 98, 105, 110, 97, 114, 121])), .iface "func" (.lit (.string [40, 42, 98, 111, 111, 116, 99, 104, 97, 105, 110, 47, 118, 109, 46, 109, 97, 99, 104, 105, 110, 101, 41, 46, 98, 105, 110, 97, 114, 121])), .iface "func" (.lit (.string [40, 42, 98, 111, 111, 116, 99, 104, 97, 105, 110, 47, 118, 109, 46, 109, 97, 99, 104, 105, 110, 101, 41, 46, 98, 105, 110, 97, 114, 121])), .iface "func" (.lit (.string [40, 42, 98, 111, 111, 116, 99, 104, 97, 105, 110, 47, 118, 109, 46, 109, 97, 99, 104, 105, 110, 101, 41, 46, 98, 105, 110, 97, 114, 121])), .iface "func" (.lit (.string [40, 42, 98, 111, 111, 116, 99, 104, 97, 105, 110, 47, 118, 109, 46, 109, 97, 99, 104, 105, 110, 101, 41, 46, 98, 105, 110, 97, 114, 121])), .iface "func" (.lit (.string [40, 42, 98, 111, 111, 116, 99, 104, 97, 105, 110, 47, 118, 109, 46, 109, 97, 99, 104, 105, 110, 101, 41, 46, 110, 111, 116])), .iface "func" (.lit (.string [40, 42, 98, 111, 111, 116, 99, 104, 97, 105, 110, 47, 118, 109, 46, 109, 97, 99, 104, 105, 110, 101, 41, 46, 98, 114, 97, 110, 99, 104])), .iface "func" (.lit (.string [40, 42, 98, 111, 111, 116, 99, 104, 97, 105, 110, 47, 118, 109, 46, 109, 97, 99, 104, 105, 110, 101, 41, 46, 106, 117, 109, 112])), .iface "func" (.lit (.string [40, 42, 98, 111, 111, 116, 99, 104, 97, 105, 110, 47, 118, 109, 46, 109, 97, 99, 104, 105, 110, 101, 41, 46, 110, 111, 116, 101])), .iface "func" (.lit (.string [40, 42, 98, 111, 111, 116, 99, 104, 97, 105, 110, 47, 118, 109, 46, 109, 97, 99, 104, 105, 110, 101, 41, 46, 101, 110, 100])), .iface "func" (.lit (.string [40, 42, 98, 111, 111, 116, 99, 104, 97, 105, 110, 47, 118, 109, 46, 109, 97, 99, 104, 105, 110, 101, 41, 46, 101, 110, 100])), .iface "func" (.lit (.string [40, 42, 98, 111, 111, 116, 99, 104, 97, 105, 110, 47, 118, 109, 46, 109, 97, 99, 104, 105, 110, 101, 41, 46, 108, 111, 111, 112]))])

/-- 'bootchainlaw17.VmMatchesSpec': WHATEVER THE INPUT: true; the input reads as it did. -/
def vmMatchesSpecSpec : ChangeSpec := { name := "vmMatchesSpec", fn := fun _ => fun
  | [d1, d2, d3] => { results := [.lit (.bool true)], args := [d1, d2, d3] }
  | _ => none }
def vmMatchesSpecRow : OpenClaim := { program := "ytmbdbfdlbbkclaadoor", sum := "63d3e79f0ed7727c2edb8434cc75554f2b9738624367674350d732c195b4d3ae", func := "bootchain/bootchainlaw17.VmMatchesSpec", spec := "vmMatchesSpec", unfollowed := true, recurses := true, named := ["bootchain/vm.instructions"], apart := false, laid := [("bootchain/vm.instructions", laid_bootchain_vm_instructions)] }
def VmMatchesSpecSaid : Prop := vmMatchesSpecRow.holds Tryd.pinned (OpenSpec.ofChange vmMatchesSpecSpec)

/-- ITS FALSE NEIGHBOUR: 'it returns false'. Refute it at one input. -/
def vmMatchesSpecWrong : ChangeSpec := { name := "vmMatchesSpec", fn := fun _ => fun
  | [d1, d2, d3] => { results := [.lit (.bool false)], args := [d1, d2, d3] }
  | _ => none }
def VmMatchesSpecWrongFalsely : Prop := vmMatchesSpecRow.holds Tryd.pinned (OpenSpec.ofChange vmMatchesSpecWrong)

/-- 'bootchainlaw17.VmOutcomeIsValid': WHATEVER THE INPUT: true; the input reads as it did. -/
def vmOutcomeIsValidSpec : ChangeSpec := { name := "vmOutcomeIsValid", fn := fun _ => fun
  | [d1, d2, d3] => { results := [.lit (.bool true)], args := [d1, d2, d3] }
  | _ => none }
def vmOutcomeIsValidRow : OpenClaim := { program := "ytmbdbfdlbbkclaadoor", sum := "63d3e79f0ed7727c2edb8434cc75554f2b9738624367674350d732c195b4d3ae", func := "bootchain/bootchainlaw17.VmOutcomeIsValid", spec := "vmOutcomeIsValid", unfollowed := true, recurses := true, named := ["bootchain/vm.instructions"], apart := false, laid := [("bootchain/vm.instructions", laid_bootchain_vm_instructions)] }
def VmOutcomeIsValidSaid : Prop := vmOutcomeIsValidRow.holds Tryd.pinned (OpenSpec.ofChange vmOutcomeIsValidSpec)

/-- ITS FALSE NEIGHBOUR: 'it returns false'. Refute it at one input. -/
def vmOutcomeIsValidWrong : ChangeSpec := { name := "vmOutcomeIsValid", fn := fun _ => fun
  | [d1, d2, d3] => { results := [.lit (.bool false)], args := [d1, d2, d3] }
  | _ => none }
def VmOutcomeIsValidWrongFalsely : Prop := vmOutcomeIsValidRow.holds Tryd.pinned (OpenSpec.ofChange vmOutcomeIsValidWrong)

/-- 'bootchainlaw17.VmGlitchBeyondEnd': WHATEVER THE INPUT: true; the input reads as it did. -/
def vmGlitchBeyondEndSpec : ChangeSpec := { name := "vmGlitchBeyondEnd", fn := fun _ => fun
  | [d] => { results := [.lit (.bool true)], args := [d] }
  | _ => none }
def vmGlitchBeyondEndRow : OpenClaim := { program := "ytmbdbfdlbbkclaadoor", sum := "63d3e79f0ed7727c2edb8434cc75554f2b9738624367674350d732c195b4d3ae", func := "bootchain/bootchainlaw17.VmGlitchBeyondEnd", spec := "vmGlitchBeyondEnd", unfollowed := true, recurses := true, named := ["bootchain/vm.instructions"], apart := false, laid := [("bootchain/vm.instructions", laid_bootchain_vm_instructions)] }
def VmGlitchBeyondEndSaid : Prop := vmGlitchBeyondEndRow.holds Tryd.pinned (OpenSpec.ofChange vmGlitchBeyondEndSpec)

/-- ITS FALSE NEIGHBOUR: 'it returns false'. Refute it at one input. -/
def vmGlitchBeyondEndWrong : ChangeSpec := { name := "vmGlitchBeyondEnd", fn := fun _ => fun
  | [d] => { results := [.lit (.bool false)], args := [d] }
  | _ => none }
def VmGlitchBeyondEndWrongFalsely : Prop := vmGlitchBeyondEndRow.holds Tryd.pinned (OpenSpec.ofChange vmGlitchBeyondEndWrong)

/-- 'bootchainlaw17.VmIgnoresUnreachedCode': WHATEVER THE INPUT: true; the input reads as it did. -/
def vmIgnoresUnreachedCodeSpec : ChangeSpec := { name := "vmIgnoresUnreachedCode", fn := fun _ => fun
  | [d] => { results := [.lit (.bool true)], args := [d] }
  | _ => none }
def vmIgnoresUnreachedCodeRow : OpenClaim := { program := "ytmbdbfdlbbkclaadoor", sum := "63d3e79f0ed7727c2edb8434cc75554f2b9738624367674350d732c195b4d3ae", func := "bootchain/bootchainlaw17.VmIgnoresUnreachedCode", spec := "vmIgnoresUnreachedCode", unfollowed := true, recurses := true, named := ["bootchain/vm.instructions"], apart := false, laid := [("bootchain/vm.instructions", laid_bootchain_vm_instructions)] }
def VmIgnoresUnreachedCodeSaid : Prop := vmIgnoresUnreachedCodeRow.holds Tryd.pinned (OpenSpec.ofChange vmIgnoresUnreachedCodeSpec)

/-- ITS FALSE NEIGHBOUR: 'it returns false'. Refute it at one input. -/
def vmIgnoresUnreachedCodeWrong : ChangeSpec := { name := "vmIgnoresUnreachedCode", fn := fun _ => fun
  | [d] => { results := [.lit (.bool false)], args := [d] }
  | _ => none }
def VmIgnoresUnreachedCodeWrongFalsely : Prop := vmIgnoresUnreachedCodeRow.holds Tryd.pinned (OpenSpec.ofChange vmIgnoresUnreachedCodeWrong)

/-- 'bootchainlaw17.VmArithmetic': WHATEVER THE INPUT: true; the input reads as it did. -/
def vmArithmeticSpec : ChangeSpec := { name := "vmArithmetic", fn := fun _ => fun
  | [d1, d2] => { results := [.lit (.bool true)], args := [d1, d2] }
  | _ => none }
def vmArithmeticRow : OpenClaim := { program := "ytmbdbfdlbbkclaadoor", sum := "63d3e79f0ed7727c2edb8434cc75554f2b9738624367674350d732c195b4d3ae", func := "bootchain/bootchainlaw17.VmArithmetic", spec := "vmArithmetic", unfollowed := true, recurses := true, named := ["bootchain/vm.instructions"], apart := false, laid := [("bootchain/vm.instructions", laid_bootchain_vm_instructions)] }
def VmArithmeticSaid : Prop := vmArithmeticRow.holds Tryd.pinned (OpenSpec.ofChange vmArithmeticSpec)

/-- ITS FALSE NEIGHBOUR: 'it returns false'. Refute it at one input. -/
def vmArithmeticWrong : ChangeSpec := { name := "vmArithmetic", fn := fun _ => fun
  | [d1, d2] => { results := [.lit (.bool false)], args := [d1, d2] }
  | _ => none }
def VmArithmeticWrongFalsely : Prop := vmArithmeticRow.holds Tryd.pinned (OpenSpec.ofChange vmArithmeticWrong)

/-- 'bootchainlaw17.VmLoops': WHATEVER THE INPUT: true; the input reads as it did. -/
def vmLoopsSpec : ChangeSpec := { name := "vmLoops", fn := fun _ => fun
  | [d] => { results := [.lit (.bool true)], args := [d] }
  | _ => none }
def vmLoopsRow : OpenClaim := { program := "ytmbdbfdlbbkclaadoor", sum := "63d3e79f0ed7727c2edb8434cc75554f2b9738624367674350d732c195b4d3ae", func := "bootchain/bootchainlaw17.VmLoops", spec := "vmLoops", unfollowed := true, recurses := true, named := ["bootchain/vm.instructions"], apart := false, laid := [("bootchain/vm.instructions", laid_bootchain_vm_instructions)] }
def VmLoopsSaid : Prop := vmLoopsRow.holds Tryd.pinned (OpenSpec.ofChange vmLoopsSpec)

/-- ITS FALSE NEIGHBOUR: 'it returns false'. Refute it at one input. -/
def vmLoopsWrong : ChangeSpec := { name := "vmLoops", fn := fun _ => fun
  | [d] => { results := [.lit (.bool false)], args := [d] }
  | _ => none }
def VmLoopsWrongFalsely : Prop := vmLoopsRow.holds Tryd.pinned (OpenSpec.ofChange vmLoopsWrong)

/- THE SECOND FORM. 'bulk': how many values and letters a reading holds, each counted each time it is reached (what is shared counts as often as it is met; a slice's spare places count too). A statement '..UptoSaid' is the law's where the arguments, and the package variables that the reading takes, are together of bulk at most 1048576: NARROWER than '..Said'. Prove '..Said' where nothing that the law and all that it calls make is longer than what came in: it says more and counts as full. Else prove '..UptoSaid'. A law counts once. -/
mutual
def uptoBulk {H : Type} : DataW H → Nat
  | .lit (.string bytes) => bytes.length + 1
  | .lit _ => 1
  | .nil => 1
  | .ptr d => uptoBulk d + 1
  | .slice elems spare => uptoBulkAll elems + uptoBulkAll spare + 1
  | .agg parts => uptoBulkAll parts + 1
  | .iface _ d => uptoBulk d + 1
  | .map entries => uptoBulkEntries entries + 1
  | .held _ => 1
def uptoBulkAll {H : Type} : List (DataW H) → Nat
  | [] => 0
  | d :: r => uptoBulk d + uptoBulkAll r
def uptoBulkEntries {H : Type} : List (Lit × DataW H) → Nat
  | [] => 0
  | x :: r => uptoBulkEntry x + uptoBulkEntries r
def uptoBulkEntry {H : Type} : Lit × DataW H → Nat
  | (.string bytes, d) => bytes.length + uptoBulk d + 1
  | (_, d) => uptoBulk d + 1
 end
def uptoSmall : (H : Type) → List (DataW H) → Bool := fun _ ds => decide (uptoBulkAll ds ≤ 1048576)
def OpenSpec.upto (s : _root_.Go.ChangeSpec) : _root_.Go.OpenSpec := { _root_.Go.OpenSpec.ofChange s with cond := some uptoSmall }

/-- 'bootchainlaw17.VmMatchesSpec', WHERE WHAT IT READS IS OF BULK AT MOST 1048576: true; the input reads as it did. -/
def vmMatchesSpecUptoRow : OpenClaim := { program := "ytmbdbfdlbbkclaadoor", sum := "63d3e79f0ed7727c2edb8434cc75554f2b9738624367674350d732c195b4d3ae", func := "bootchain/bootchainlaw17.VmMatchesSpec", spec := "vmMatchesSpec", unfollowed := true, recurses := true, named := ["bootchain/vm.instructions"], apart := false, laid := [("bootchain/vm.instructions", laid_bootchain_vm_instructions)], narrowed := true }
def VmMatchesSpecUptoSaid : Prop := vmMatchesSpecUptoRow.holds Tryd.pinned (OpenSpec.upto vmMatchesSpecSpec)

/-- 'bootchainlaw17.VmOutcomeIsValid', WHERE WHAT IT READS IS OF BULK AT MOST 1048576: true; the input reads as it did. -/
def vmOutcomeIsValidUptoRow : OpenClaim := { program := "ytmbdbfdlbbkclaadoor", sum := "63d3e79f0ed7727c2edb8434cc75554f2b9738624367674350d732c195b4d3ae", func := "bootchain/bootchainlaw17.VmOutcomeIsValid", spec := "vmOutcomeIsValid", unfollowed := true, recurses := true, named := ["bootchain/vm.instructions"], apart := false, laid := [("bootchain/vm.instructions", laid_bootchain_vm_instructions)], narrowed := true }
def VmOutcomeIsValidUptoSaid : Prop := vmOutcomeIsValidUptoRow.holds Tryd.pinned (OpenSpec.upto vmOutcomeIsValidSpec)

/-- 'bootchainlaw17.VmGlitchBeyondEnd', WHERE WHAT IT READS IS OF BULK AT MOST 1048576: true; the input reads as it did. -/
def vmGlitchBeyondEndUptoRow : OpenClaim := { program := "ytmbdbfdlbbkclaadoor", sum := "63d3e79f0ed7727c2edb8434cc75554f2b9738624367674350d732c195b4d3ae", func := "bootchain/bootchainlaw17.VmGlitchBeyondEnd", spec := "vmGlitchBeyondEnd", unfollowed := true, recurses := true, named := ["bootchain/vm.instructions"], apart := false, laid := [("bootchain/vm.instructions", laid_bootchain_vm_instructions)], narrowed := true }
def VmGlitchBeyondEndUptoSaid : Prop := vmGlitchBeyondEndUptoRow.holds Tryd.pinned (OpenSpec.upto vmGlitchBeyondEndSpec)

/-- 'bootchainlaw17.VmIgnoresUnreachedCode', WHERE WHAT IT READS IS OF BULK AT MOST 1048576: true; the input reads as it did. -/
def vmIgnoresUnreachedCodeUptoRow : OpenClaim := { program := "ytmbdbfdlbbkclaadoor", sum := "63d3e79f0ed7727c2edb8434cc75554f2b9738624367674350d732c195b4d3ae", func := "bootchain/bootchainlaw17.VmIgnoresUnreachedCode", spec := "vmIgnoresUnreachedCode", unfollowed := true, recurses := true, named := ["bootchain/vm.instructions"], apart := false, laid := [("bootchain/vm.instructions", laid_bootchain_vm_instructions)], narrowed := true }
def VmIgnoresUnreachedCodeUptoSaid : Prop := vmIgnoresUnreachedCodeUptoRow.holds Tryd.pinned (OpenSpec.upto vmIgnoresUnreachedCodeSpec)

/-- 'bootchainlaw17.VmArithmetic', WHERE WHAT IT READS IS OF BULK AT MOST 1048576: true; the input reads as it did. -/
def vmArithmeticUptoRow : OpenClaim := { program := "ytmbdbfdlbbkclaadoor", sum := "63d3e79f0ed7727c2edb8434cc75554f2b9738624367674350d732c195b4d3ae", func := "bootchain/bootchainlaw17.VmArithmetic", spec := "vmArithmetic", unfollowed := true, recurses := true, named := ["bootchain/vm.instructions"], apart := false, laid := [("bootchain/vm.instructions", laid_bootchain_vm_instructions)], narrowed := true }
def VmArithmeticUptoSaid : Prop := vmArithmeticUptoRow.holds Tryd.pinned (OpenSpec.upto vmArithmeticSpec)

/-- 'bootchainlaw17.VmLoops', WHERE WHAT IT READS IS OF BULK AT MOST 1048576: true; the input reads as it did. -/
def vmLoopsUptoRow : OpenClaim := { program := "ytmbdbfdlbbkclaadoor", sum := "63d3e79f0ed7727c2edb8434cc75554f2b9738624367674350d732c195b4d3ae", func := "bootchain/bootchainlaw17.VmLoops", spec := "vmLoops", unfollowed := true, recurses := true, named := ["bootchain/vm.instructions"], apart := false, laid := [("bootchain/vm.instructions", laid_bootchain_vm_instructions)], narrowed := true }
def VmLoopsUptoSaid : Prop := vmLoopsUptoRow.holds Tryd.pinned (OpenSpec.upto vmLoopsSpec)

end Rows
end Go.Proofs.YtmbdbfdlbbkclaaDoor
