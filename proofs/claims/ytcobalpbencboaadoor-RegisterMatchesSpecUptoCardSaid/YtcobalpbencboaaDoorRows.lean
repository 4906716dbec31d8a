/-
  NARROWER THAN 'FOR EVERY INPUT', by the rows' own cells (each row's printed sentence says how): MerkleRoot: laid · MerkleVerify: laid · MerkleComplete: laid · MerkleSound: laid · MerkleBinding: laid · MerkleTampered: laid · RegisterMatchesSpec: laid · RegisterFoldMatchesSpec: laid · RegisterCodeIgnoresInputs: laid · RegisterChainsBack: laid · RegisterSeparatesFields: laid · RegisterPointsProvable: laid.
  DERIVED. THE GIVEN ROWS OF THIS SEAT. 12 by the template 'for every input the law returns true; each argument reads behind the call as it read before'; 0 by the template 'total and deterministic' (their statements: YtcobalpbencboaaDoorTotals.lean).
  GIVEN WITH THE SEED: the statements are not yours to turn. If you find one false, say at which input.
  Laid BY PROGRAM, IN A SANDBOX (cutbox-rows.mjs): the forced cells as the released guide's own fill.sh prints them over the translation d237dcf841348c2a… (all of the seat's roots in one cut). By AI agents, Wed Nov 11 2026. No macro, syntax, notation, axiom, sorry.
-/
import Derived.Test.YtcobalpbencboaaDoorChecked
import GoSem.Claim
import GoSem.ClaimJoined
import GoSem.ClaimMapViews
import Derived.JoinedTies
import Derived.KernelRfl
namespace Go.Proofs.YtcobalpbencboaaDoor
/- THE CELL 'sum', in the pinned program and in every row, IS THE sha256 OF THE DUMP (.gsa) THAT YtcobalpbencboaaDoorProg.lean LOADS. Nothing in Lean hashes anything: it is a label: what it is worth is what the hold of that sum in a sandbox is worth. -/
noncomputable def Tryd.pinned : Pinned := { name := "ytcobalpbencboaadoor", sum := "d237dcf841348c2a36ba3fc480db657388977313e7ce8c5d3aeeac26276df608", checked := Tryd.checked }
namespace Rows
def none {H : Type} : Left H := { results := [], args := [] }

/- WHAT THE LISTED PACKAGE-LEVEL VARIABLES READ AS WHEN THE CALL BEGINS. Each datum BY PROGRAM (the guide's laid-datum.mjs) off the statement by which the dump's own 'gosem.cut.vars' lays the variable. In a bare row this is a premise. The card (YtcobalpbencboaaDoorCards.lean) ties it to the program's text. -/
def laid_bootchain_sha_constants {H : Type} : DataW H := .agg [.lit (.int .u32 1116352408), .lit (.int .u32 1899447441), .lit (.int .u32 3049323471), .lit (.int .u32 3921009573), .lit (.int .u32 961987163), .lit (.int .u32 1508970993), .lit (.int .u32 2453635748), .lit (.int .u32 2870763221), .lit (.int .u32 3624381080), .lit (.int .u32 310598401), .lit (.int .u32 607225278), .lit (.int .u32 1426881987), .lit (.int .u32 1925078388), .lit (.int .u32 2162078206), .lit (.int .u32 2614888103), .lit (.int .u32 3248222580), .lit (.int .u32 3835390401), .lit (.int .u32 4022224774), .lit (.int .u32 264347078), .lit (.int .u32 604807628), .lit (.int .u32 770255983), .lit (.int .u32 1249150122), .lit (.int .u32 1555081692), .lit (.int .u32 1996064986), .lit (.int .u32 2554220882), .lit (.int .u32 2821834349), .lit (.int .u32 2952996808), .lit (.int .u32 3210313671), .lit (.int .u32 3336571891), .lit (.int .u32 3584528711), .lit (.int .u32 113926993), .lit (.int .u32 338241895), .lit (.int .u32 666307205), .lit (.int .u32 773529912), .lit (.int .u32 1294757372), .lit (.int .u32 1396182291), .lit (.int .u32 1695183700), .lit (.int .u32 1986661051), .lit (.int .u32 2177026350), .lit (.int .u32 2456956037), .lit (.int .u32 2730485921), .lit (.int .u32 2820302411), .lit (.int .u32 3259730800), .lit (.int .u32 3345764771), .lit (.int .u32 3516065817), .lit (.int .u32 3600352804), .lit (.int .u32 4094571909), .lit (.int .u32 275423344), .lit (.int .u32 430227734), .lit (.int .u32 506948616), .lit (.int .u32 659060556), .lit (.int .u32 883997877), .lit (.int .u32 958139571), .lit (.int .u32 1322822218), .lit (.int .u32 1537002063), .lit (.int .u32 1747873779), .lit (.int .u32 1955562222), .lit (.int .u32 2024104815), .lit (.int .u32 2227730452), .lit (.int .u32 2361852424), .lit (.int .u32 2428436474), .lit (.int .u32 2756734187), .lit (.int .u32 3204031479), .lit (.int .u32 3329325298)]
def laid_bootchain_sha_start {H : Type} : DataW H := .agg [.lit (.int .u32 1779033703), .lit (.int .u32 3144134277), .lit (.int .u32 1013904242), .lit (.int .u32 2773480762), .lit (.int .u32 1359893119), .lit (.int .u32 2600822924), .lit (.int .u32 528734635), .lit (.int .u32 1541459225)]

/-- 'bootchainlaw03.MerkleRoot': WHATEVER THE INPUT: true; the input reads as it did. -/
def merkleRootSpec : ChangeSpec := { name := "merkleRoot", fn := fun _ => fun
  | [d1, d2] => { results := [.lit (.bool true)], args := [d1, d2] }
  | _ => none }
def merkleRootRow : OpenClaim := { program := "ytcobalpbencboaadoor", sum := "d237dcf841348c2a36ba3fc480db657388977313e7ce8c5d3aeeac26276df608", func := "bootchain/bootchainlaw03.MerkleRoot", spec := "merkleRoot", unfollowed := true, recurses := true, named := ["bootchain/sha.start", "bootchain/sha.constants"], apart := false, laid := [("bootchain/sha.constants", laid_bootchain_sha_constants), ("bootchain/sha.start", laid_bootchain_sha_start)] }
def MerkleRootSaid : Prop := merkleRootRow.holds Tryd.pinned (OpenSpec.ofChange merkleRootSpec)

/-- ITS FALSE NEIGHBOUR: 'it returns false'. Refute it at one input. -/
def merkleRootWrong : ChangeSpec := { name := "merkleRoot", fn := fun _ => fun
  | [d1, d2] => { results := [.lit (.bool false)], args := [d1, d2] }
  | _ => none }
def MerkleRootWrongFalsely : Prop := merkleRootRow.holds Tryd.pinned (OpenSpec.ofChange merkleRootWrong)

/-- 'bootchainlaw03.MerkleVerify': WHATEVER THE INPUT: true; the input reads as it did. -/
def merkleVerifySpec : ChangeSpec := { name := "merkleVerify", fn := fun _ => fun
  | [d1, d2, d3, d4, d5] => { results := [.lit (.bool true)], args := [d1, d2, d3, d4, d5] }
  | _ => none }
def merkleVerifyRow : OpenClaim := { program := "ytcobalpbencboaadoor", sum := "d237dcf841348c2a36ba3fc480db657388977313e7ce8c5d3aeeac26276df608", func := "bootchain/bootchainlaw03.MerkleVerify", spec := "merkleVerify", unfollowed := true, recurses := true, named := ["bootchain/sha.start", "bootchain/sha.constants"], apart := false, laid := [("bootchain/sha.constants", laid_bootchain_sha_constants), ("bootchain/sha.start", laid_bootchain_sha_start)] }
def MerkleVerifySaid : Prop := merkleVerifyRow.holds Tryd.pinned (OpenSpec.ofChange merkleVerifySpec)

/-- ITS FALSE NEIGHBOUR: 'it returns false'. Refute it at one input. -/
def merkleVerifyWrong : ChangeSpec := { name := "merkleVerify", fn := fun _ => fun
  | [d1, d2, d3, d4, d5] => { results := [.lit (.bool false)], args := [d1, d2, d3, d4, d5] }
  | _ => none }
def MerkleVerifyWrongFalsely : Prop := merkleVerifyRow.holds Tryd.pinned (OpenSpec.ofChange merkleVerifyWrong)

/-- 'bootchainlaw03.MerkleComplete': WHATEVER THE INPUT: true; the input reads as it did. -/
def merkleCompleteSpec : ChangeSpec := { name := "merkleComplete", fn := fun _ => fun
  | [d1, d2] => { results := [.lit (.bool true)], args := [d1, d2] }
  | _ => none }
def merkleCompleteRow : OpenClaim := { program := "ytcobalpbencboaadoor", sum := "d237dcf841348c2a36ba3fc480db657388977313e7ce8c5d3aeeac26276df608", func := "bootchain/bootchainlaw03.MerkleComplete", spec := "merkleComplete", unfollowed := true, recurses := true, named := ["bootchain/sha.start", "bootchain/sha.constants"], apart := false, laid := [("bootchain/sha.constants", laid_bootchain_sha_constants), ("bootchain/sha.start", laid_bootchain_sha_start)] }
def MerkleCompleteSaid : Prop := merkleCompleteRow.holds Tryd.pinned (OpenSpec.ofChange merkleCompleteSpec)

/-- ITS FALSE NEIGHBOUR: 'it returns false'. Refute it at one input. -/
def merkleCompleteWrong : ChangeSpec := { name := "merkleComplete", fn := fun _ => fun
  | [d1, d2] => { results := [.lit (.bool false)], args := [d1, d2] }
  | _ => none }
def MerkleCompleteWrongFalsely : Prop := merkleCompleteRow.holds Tryd.pinned (OpenSpec.ofChange merkleCompleteWrong)

/-- 'bootchainlaw03.MerkleSound': WHATEVER THE INPUT: true; the input reads as it did. -/
def merkleSoundSpec : ChangeSpec := { name := "merkleSound", fn := fun _ => fun
  | [d1, d2, d3, d4] => { results := [.lit (.bool true)], args := [d1, d2, d3, d4] }
  | _ => none }
def merkleSoundRow : OpenClaim := { program := "ytcobalpbencboaadoor", sum := "d237dcf841348c2a36ba3fc480db657388977313e7ce8c5d3aeeac26276df608", func := "bootchain/bootchainlaw03.MerkleSound", spec := "merkleSound", unfollowed := true, recurses := true, named := ["bootchain/sha.start", "bootchain/sha.constants"], apart := false, laid := [("bootchain/sha.constants", laid_bootchain_sha_constants), ("bootchain/sha.start", laid_bootchain_sha_start)] }
def MerkleSoundSaid : Prop := merkleSoundRow.holds Tryd.pinned (OpenSpec.ofChange merkleSoundSpec)

/-- ITS FALSE NEIGHBOUR: 'it returns false'. Refute it at one input. -/
def merkleSoundWrong : ChangeSpec := { name := "merkleSound", fn := fun _ => fun
  | [d1, d2, d3, d4] => { results := [.lit (.bool false)], args := [d1, d2, d3, d4] }
  | _ => none }
def MerkleSoundWrongFalsely : Prop := merkleSoundRow.holds Tryd.pinned (OpenSpec.ofChange merkleSoundWrong)

/-- 'bootchainlaw03.MerkleBinding': WHATEVER THE INPUT: true; the input reads as it did. -/
def merkleBindingSpec : ChangeSpec := { name := "merkleBinding", fn := fun _ => fun
  | [d1, d2] => { results := [.lit (.bool true)], args := [d1, d2] }
  | _ => none }
def merkleBindingRow : OpenClaim := { program := "ytcobalpbencboaadoor", sum := "d237dcf841348c2a36ba3fc480db657388977313e7ce8c5d3aeeac26276df608", func := "bootchain/bootchainlaw03.MerkleBinding", spec := "merkleBinding", unfollowed := true, recurses := true, named := ["bootchain/sha.start", "bootchain/sha.constants"], apart := false, laid := [("bootchain/sha.constants", laid_bootchain_sha_constants), ("bootchain/sha.start", laid_bootchain_sha_start)] }
def MerkleBindingSaid : Prop := merkleBindingRow.holds Tryd.pinned (OpenSpec.ofChange merkleBindingSpec)

/-- ITS FALSE NEIGHBOUR: 'it returns false'. Refute it at one input. -/
def merkleBindingWrong : ChangeSpec := { name := "merkleBinding", fn := fun _ => fun
  | [d1, d2] => { results := [.lit (.bool false)], args := [d1, d2] }
  | _ => none }
def MerkleBindingWrongFalsely : Prop := merkleBindingRow.holds Tryd.pinned (OpenSpec.ofChange merkleBindingWrong)

/-- 'bootchainlaw03.MerkleTampered': WHATEVER THE INPUT: true; the input reads as it did. -/
def merkleTamperedSpec : ChangeSpec := { name := "merkleTampered", fn := fun _ => fun
  | [d1, d2, d3, d4] => { results := [.lit (.bool true)], args := [d1, d2, d3, d4] }
  | _ => none }
def merkleTamperedRow : OpenClaim := { program := "ytcobalpbencboaadoor", sum := "d237dcf841348c2a36ba3fc480db657388977313e7ce8c5d3aeeac26276df608", func := "bootchain/bootchainlaw03.MerkleTampered", spec := "merkleTampered", unfollowed := true, recurses := true, named := ["bootchain/sha.start", "bootchain/sha.constants"], apart := false, laid := [("bootchain/sha.constants", laid_bootchain_sha_constants), ("bootchain/sha.start", laid_bootchain_sha_start)] }
def MerkleTamperedSaid : Prop := merkleTamperedRow.holds Tryd.pinned (OpenSpec.ofChange merkleTamperedSpec)

/-- ITS FALSE NEIGHBOUR: 'it returns false'. Refute it at one input. -/
def merkleTamperedWrong : ChangeSpec := { name := "merkleTampered", fn := fun _ => fun
  | [d1, d2, d3, d4] => { results := [.lit (.bool false)], args := [d1, d2, d3, d4] }
  | _ => none }
def MerkleTamperedWrongFalsely : Prop := merkleTamperedRow.holds Tryd.pinned (OpenSpec.ofChange merkleTamperedWrong)

/-- 'bootchainlaw20.RegisterMatchesSpec': WHATEVER THE INPUT: true; the input reads as it did. -/
def registerMatchesSpecSpec : ChangeSpec := { name := "registerMatchesSpec", fn := fun _ => fun
  | [d] => { results := [.lit (.bool true)], args := [d] }
  | _ => none }
def registerMatchesSpecRow : OpenClaim := { program := "ytcobalpbencboaadoor", sum := "d237dcf841348c2a36ba3fc480db657388977313e7ce8c5d3aeeac26276df608", func := "bootchain/bootchainlaw20.RegisterMatchesSpec", spec := "registerMatchesSpec", unfollowed := true, recurses := true, named := ["bootchain/sha.start", "bootchain/sha.constants"], apart := false, laid := [("bootchain/sha.constants", laid_bootchain_sha_constants), ("bootchain/sha.start", laid_bootchain_sha_start)] }
def RegisterMatchesSpecSaid : Prop := registerMatchesSpecRow.holds Tryd.pinned (OpenSpec.ofChange registerMatchesSpecSpec)

/-- ITS FALSE NEIGHBOUR: 'it returns false'. Refute it at one input. -/
def registerMatchesSpecWrong : ChangeSpec := { name := "registerMatchesSpec", fn := fun _ => fun
  | [d] => { results := [.lit (.bool false)], args := [d] }
  | _ => none }
def RegisterMatchesSpecWrongFalsely : Prop := registerMatchesSpecRow.holds Tryd.pinned (OpenSpec.ofChange registerMatchesSpecWrong)

/-- 'bootchainlaw20.RegisterFoldMatchesSpec': WHATEVER THE INPUT: true; the input reads as it did. -/
def registerFoldMatchesSpecSpec : ChangeSpec := { name := "registerFoldMatchesSpec", fn := fun _ => fun
  | [d1, d2, d3] => { results := [.lit (.bool true)], args := [d1, d2, d3] }
  | _ => none }
def registerFoldMatchesSpecRow : OpenClaim := { program := "ytcobalpbencboaadoor", sum := "d237dcf841348c2a36ba3fc480db657388977313e7ce8c5d3aeeac26276df608", func := "bootchain/bootchainlaw20.RegisterFoldMatchesSpec", spec := "registerFoldMatchesSpec", unfollowed := true, recurses := true, named := ["bootchain/sha.start", "bootchain/sha.constants"], apart := false, laid := [("bootchain/sha.constants", laid_bootchain_sha_constants), ("bootchain/sha.start", laid_bootchain_sha_start)] }
def RegisterFoldMatchesSpecSaid : Prop := registerFoldMatchesSpecRow.holds Tryd.pinned (OpenSpec.ofChange registerFoldMatchesSpecSpec)

/-- ITS FALSE NEIGHBOUR: 'it returns false'. Refute it at one input. -/
def registerFoldMatchesSpecWrong : ChangeSpec := { name := "registerFoldMatchesSpec", fn := fun _ => fun
  | [d1, d2, d3] => { results := [.lit (.bool false)], args := [d1, d2, d3] }
  | _ => none }
def RegisterFoldMatchesSpecWrongFalsely : Prop := registerFoldMatchesSpecRow.holds Tryd.pinned (OpenSpec.ofChange registerFoldMatchesSpecWrong)

/-- 'bootchainlaw20.RegisterCodeIgnoresInputs': WHATEVER THE INPUT: true; the input reads as it did. -/
def registerCodeIgnoresInputsSpec : ChangeSpec := { name := "registerCodeIgnoresInputs", fn := fun _ => fun
  | [d1, d2, d3] => { results := [.lit (.bool true)], args := [d1, d2, d3] }
  | _ => none }
def registerCodeIgnoresInputsRow : OpenClaim := { program := "ytcobalpbencboaadoor", sum := "d237dcf841348c2a36ba3fc480db657388977313e7ce8c5d3aeeac26276df608", func := "bootchain/bootchainlaw20.RegisterCodeIgnoresInputs", spec := "registerCodeIgnoresInputs", unfollowed := true, recurses := true, named := ["bootchain/sha.start", "bootchain/sha.constants"], apart := false, laid := [("bootchain/sha.constants", laid_bootchain_sha_constants), ("bootchain/sha.start", laid_bootchain_sha_start)] }
def RegisterCodeIgnoresInputsSaid : Prop := registerCodeIgnoresInputsRow.holds Tryd.pinned (OpenSpec.ofChange registerCodeIgnoresInputsSpec)

/-- ITS FALSE NEIGHBOUR: 'it returns false'. Refute it at one input. -/
def registerCodeIgnoresInputsWrong : ChangeSpec := { name := "registerCodeIgnoresInputs", fn := fun _ => fun
  | [d1, d2, d3] => { results := [.lit (.bool false)], args := [d1, d2, d3] }
  | _ => none }
def RegisterCodeIgnoresInputsWrongFalsely : Prop := registerCodeIgnoresInputsRow.holds Tryd.pinned (OpenSpec.ofChange registerCodeIgnoresInputsWrong)

/-- 'bootchainlaw20.RegisterChainsBack': WHATEVER THE INPUT: true; the input reads as it did. -/
def registerChainsBackSpec : ChangeSpec := { name := "registerChainsBack", fn := fun _ => fun
  | [d1, d2, d3] => { results := [.lit (.bool true)], args := [d1, d2, d3] }
  | _ => none }
def registerChainsBackRow : OpenClaim := { program := "ytcobalpbencboaadoor", sum := "d237dcf841348c2a36ba3fc480db657388977313e7ce8c5d3aeeac26276df608", func := "bootchain/bootchainlaw20.RegisterChainsBack", spec := "registerChainsBack", unfollowed := true, recurses := true, named := ["bootchain/sha.start", "bootchain/sha.constants"], apart := false, laid := [("bootchain/sha.constants", laid_bootchain_sha_constants), ("bootchain/sha.start", laid_bootchain_sha_start)] }
def RegisterChainsBackSaid : Prop := registerChainsBackRow.holds Tryd.pinned (OpenSpec.ofChange registerChainsBackSpec)

/-- ITS FALSE NEIGHBOUR: 'it returns false'. Refute it at one input. -/
def registerChainsBackWrong : ChangeSpec := { name := "registerChainsBack", fn := fun _ => fun
  | [d1, d2, d3] => { results := [.lit (.bool false)], args := [d1, d2, d3] }
  | _ => none }
def RegisterChainsBackWrongFalsely : Prop := registerChainsBackRow.holds Tryd.pinned (OpenSpec.ofChange registerChainsBackWrong)

/-- 'bootchainlaw20.RegisterSeparatesFields': WHATEVER THE INPUT: true; the input reads as it did. -/
def registerSeparatesFieldsSpec : ChangeSpec := { name := "registerSeparatesFields", fn := fun _ => fun
  | [d1, d2] => { results := [.lit (.bool true)], args := [d1, d2] }
  | _ => none }
def registerSeparatesFieldsRow : OpenClaim := { program := "ytcobalpbencboaadoor", sum := "d237dcf841348c2a36ba3fc480db657388977313e7ce8c5d3aeeac26276df608", func := "bootchain/bootchainlaw20.RegisterSeparatesFields", spec := "registerSeparatesFields", unfollowed := true, recurses := true, named := ["bootchain/sha.start", "bootchain/sha.constants"], apart := false, laid := [("bootchain/sha.constants", laid_bootchain_sha_constants), ("bootchain/sha.start", laid_bootchain_sha_start)] }
def RegisterSeparatesFieldsSaid : Prop := registerSeparatesFieldsRow.holds Tryd.pinned (OpenSpec.ofChange registerSeparatesFieldsSpec)

/-- ITS FALSE NEIGHBOUR: 'it returns false'. Refute it at one input. -/
def registerSeparatesFieldsWrong : ChangeSpec := { name := "registerSeparatesFields", fn := fun _ => fun
  | [d1, d2] => { results := [.lit (.bool false)], args := [d1, d2] }
  | _ => none }
def RegisterSeparatesFieldsWrongFalsely : Prop := registerSeparatesFieldsRow.holds Tryd.pinned (OpenSpec.ofChange registerSeparatesFieldsWrong)

/-- 'bootchainlaw20.RegisterPointsProvable': WHATEVER THE INPUT: true; the input reads as it did. -/
def registerPointsProvableSpec : ChangeSpec := { name := "registerPointsProvable", fn := fun _ => fun
  | [d1, d2] => { results := [.lit (.bool true)], args := [d1, d2] }
  | _ => none }
def registerPointsProvableRow : OpenClaim := { program := "ytcobalpbencboaadoor", sum := "d237dcf841348c2a36ba3fc480db657388977313e7ce8c5d3aeeac26276df608", func := "bootchain/bootchainlaw20.RegisterPointsProvable", spec := "registerPointsProvable", unfollowed := true, recurses := true, named := ["bootchain/sha.start", "bootchain/sha.constants"], apart := false, laid := [("bootchain/sha.constants", laid_bootchain_sha_constants), ("bootchain/sha.start", laid_bootchain_sha_start)] }
def RegisterPointsProvableSaid : Prop := registerPointsProvableRow.holds Tryd.pinned (OpenSpec.ofChange registerPointsProvableSpec)

/-- ITS FALSE NEIGHBOUR: 'it returns false'. Refute it at one input. -/
def registerPointsProvableWrong : ChangeSpec := { name := "registerPointsProvable", fn := fun _ => fun
  | [d1, d2] => { results := [.lit (.bool false)], args := [d1, d2] }
  | _ => none }
def RegisterPointsProvableWrongFalsely : Prop := registerPointsProvableRow.holds Tryd.pinned (OpenSpec.ofChange registerPointsProvableWrong)

/- THE SECOND FORM. 'bulk': how many values and letters a reading holds, each counted each time it is reached (what is shared counts as often as it is met; a slice's spare places count too). A statement '..UptoSaid' is the law's where the arguments, and the package variables that the reading takes, are together of bulk at most 1048576: NARROWER than '..Said'. Prove '..Said' where nothing that the law and all that it calls make is longer than what came in: it says more and counts as full. Else prove '..UptoSaid'. A law counts once. -/
mutual
def uptoBulk {H : Type} : DataW H → Nat
  | .lit (.string bytes) => bytes.length + 1
  | .lit _ => 1
  | .nil => 1
  | .ptr d => uptoBulk d + 1
  | .slice elems spare => uptoBulkAll elems + uptoBulkAll spare + 1
  | .agg parts => uptoBulkAll parts + 1
  | .iface _ d => uptoBulk d + 1
  | .map entries => uptoBulkEntries entries + 1
  | .held _ => 1
def uptoBulkAll {H : Type} : List (DataW H) → Nat
  | [] => 0
  | d :: r => uptoBulk d + uptoBulkAll r
def uptoBulkEntries {H : Type} : List (Lit × DataW H) → Nat
  | [] => 0
  | x :: r => uptoBulkEntry x + uptoBulkEntries r
def uptoBulkEntry {H : Type} : Lit × DataW H → Nat
  | (.string bytes, d) => bytes.length + uptoBulk d + 1
  | (_, d) => uptoBulk d + 1
 end
def uptoSmall : (H : Type) → List (DataW H) → Bool := fun _ ds => decide (uptoBulkAll ds ≤ 1048576)
def OpenSpec.upto (s : _root_.Go.ChangeSpec) : _root_.Go.OpenSpec := { _root_.Go.OpenSpec.ofChange s with cond := some uptoSmall }

/-- 'bootchainlaw03.MerkleRoot', WHERE WHAT IT READS IS OF BULK AT MOST 1048576: true; the input reads as it did. -/
def merkleRootUptoRow : OpenClaim := { program := "ytcobalpbencboaadoor", sum := "d237dcf841348c2a36ba3fc480db657388977313e7ce8c5d3aeeac26276df608", func := "bootchain/bootchainlaw03.MerkleRoot", spec := "merkleRoot", unfollowed := true, recurses := true, named := ["bootchain/sha.start", "bootchain/sha.constants"], apart := false, laid := [("bootchain/sha.constants", laid_bootchain_sha_constants), ("bootchain/sha.start", laid_bootchain_sha_start)], narrowed := true }
def MerkleRootUptoSaid : Prop := merkleRootUptoRow.holds Tryd.pinned (OpenSpec.upto merkleRootSpec)

/-- 'bootchainlaw03.MerkleVerify', WHERE WHAT IT READS IS OF BULK AT MOST 1048576: true; the input reads as it did. -/
def merkleVerifyUptoRow : OpenClaim := { program := "ytcobalpbencboaadoor", sum := "d237dcf841348c2a36ba3fc480db657388977313e7ce8c5d3aeeac26276df608", func := "bootchain/bootchainlaw03.MerkleVerify", spec := "merkleVerify", unfollowed := true, recurses := true, named := ["bootchain/sha.start", "bootchain/sha.constants"], apart := false, laid := [("bootchain/sha.constants", laid_bootchain_sha_constants), ("bootchain/sha.start", laid_bootchain_sha_start)], narrowed := true }
def MerkleVerifyUptoSaid : Prop := merkleVerifyUptoRow.holds Tryd.pinned (OpenSpec.upto merkleVerifySpec)

/-- 'bootchainlaw03.MerkleComplete', WHERE WHAT IT READS IS OF BULK AT MOST 1048576: true; the input reads as it did. -/
def merkleCompleteUptoRow : OpenClaim := { program := "ytcobalpbencboaadoor", sum := "d237dcf841348c2a36ba3fc480db657388977313e7ce8c5d3aeeac26276df608", func := "bootchain/bootchainlaw03.MerkleComplete", spec := "merkleComplete", unfollowed := true, recurses := true, named := ["bootchain/sha.start", "bootchain/sha.constants"], apart := false, laid := [("bootchain/sha.constants", laid_bootchain_sha_constants), ("bootchain/sha.start", laid_bootchain_sha_start)], narrowed := true }
def MerkleCompleteUptoSaid : Prop := merkleCompleteUptoRow.holds Tryd.pinned (OpenSpec.upto merkleCompleteSpec)

/-- 'bootchainlaw03.MerkleSound', WHERE WHAT IT READS IS OF BULK AT MOST 1048576: true; the input reads as it did. -/
def merkleSoundUptoRow : OpenClaim := { program := "ytcobalpbencboaadoor", sum := "d237dcf841348c2a36ba3fc480db657388977313e7ce8c5d3aeeac26276df608", func := "bootchain/bootchainlaw03.MerkleSound", spec := "merkleSound", unfollowed := true, recurses := true, named := ["bootchain/sha.start", "bootchain/sha.constants"], apart := false, laid := [("bootchain/sha.constants", laid_bootchain_sha_constants), ("bootchain/sha.start", laid_bootchain_sha_start)], narrowed := true }
def MerkleSoundUptoSaid : Prop := merkleSoundUptoRow.holds Tryd.pinned (OpenSpec.upto merkleSoundSpec)

/-- 'bootchainlaw03.MerkleBinding', WHERE WHAT IT READS IS OF BULK AT MOST 1048576: true; the input reads as it did. -/
def merkleBindingUptoRow : OpenClaim := { program := "ytcobalpbencboaadoor", sum := "d237dcf841348c2a36ba3fc480db657388977313e7ce8c5d3aeeac26276df608", func := "bootchain/bootchainlaw03.MerkleBinding", spec := "merkleBinding", unfollowed := true, recurses := true, named := ["bootchain/sha.start", "bootchain/sha.constants"], apart := false, laid := [("bootchain/sha.constants", laid_bootchain_sha_constants), ("bootchain/sha.start", laid_bootchain_sha_start)], narrowed := true }
def MerkleBindingUptoSaid : Prop := merkleBindingUptoRow.holds Tryd.pinned (OpenSpec.upto merkleBindingSpec)

/-- 'bootchainlaw03.MerkleTampered', WHERE WHAT IT READS IS OF BULK AT MOST 1048576: true; the input reads as it did. -/
def merkleTamperedUptoRow : OpenClaim := { program := "ytcobalpbencboaadoor", sum := "d237dcf841348c2a36ba3fc480db657388977313e7ce8c5d3aeeac26276df608", func := "bootchain/bootchainlaw03.MerkleTampered", spec := "merkleTampered", unfollowed := true, recurses := true, named := ["bootchain/sha.start", "bootchain/sha.constants"], apart := false, laid := [("bootchain/sha.constants", laid_bootchain_sha_constants), ("bootchain/sha.start", laid_bootchain_sha_start)], narrowed := true }
def MerkleTamperedUptoSaid : Prop := merkleTamperedUptoRow.holds Tryd.pinned (OpenSpec.upto merkleTamperedSpec)

/-- 'bootchainlaw20.RegisterMatchesSpec', WHERE WHAT IT READS IS OF BULK AT MOST 1048576: true; the input reads as it did. -/
def registerMatchesSpecUptoRow : OpenClaim := { program := "ytcobalpbencboaadoor", sum := "d237dcf841348c2a36ba3fc480db657388977313e7ce8c5d3aeeac26276df608", func := "bootchain/bootchainlaw20.RegisterMatchesSpec", spec := "registerMatchesSpec", unfollowed := true, recurses := true, named := ["bootchain/sha.start", "bootchain/sha.constants"], apart := false, laid := [("bootchain/sha.constants", laid_bootchain_sha_constants), ("bootchain/sha.start", laid_bootchain_sha_start)], narrowed := true }
def RegisterMatchesSpecUptoSaid : Prop := registerMatchesSpecUptoRow.holds Tryd.pinned (OpenSpec.upto registerMatchesSpecSpec)

/-- 'bootchainlaw20.RegisterFoldMatchesSpec', WHERE WHAT IT READS IS OF BULK AT MOST 1048576: true; the input reads as it did. -/
def registerFoldMatchesSpecUptoRow : OpenClaim := { program := "ytcobalpbencboaadoor", sum := "d237dcf841348c2a36ba3fc480db657388977313e7ce8c5d3aeeac26276df608", func := "bootchain/bootchainlaw20.RegisterFoldMatchesSpec", spec := "registerFoldMatchesSpec", unfollowed := true, recurses := true, named := ["bootchain/sha.start", "bootchain/sha.constants"], apart := false, laid := [("bootchain/sha.constants", laid_bootchain_sha_constants), ("bootchain/sha.start", laid_bootchain_sha_start)], narrowed := true }
def RegisterFoldMatchesSpecUptoSaid : Prop := registerFoldMatchesSpecUptoRow.holds Tryd.pinned (OpenSpec.upto registerFoldMatchesSpecSpec)

/-- 'bootchainlaw20.RegisterCodeIgnoresInputs', WHERE WHAT IT READS IS OF BULK AT MOST 1048576: true; the input reads as it did. -/
def registerCodeIgnoresInputsUptoRow : OpenClaim := { program := "ytcobalpbencboaadoor", sum := "d237dcf841348c2a36ba3fc480db657388977313e7ce8c5d3aeeac26276df608", func := "bootchain/bootchainlaw20.RegisterCodeIgnoresInputs", spec := "registerCodeIgnoresInputs", unfollowed := true, recurses := true, named := ["bootchain/sha.start", "bootchain/sha.constants"], apart := false, laid := [("bootchain/sha.constants", laid_bootchain_sha_constants), ("bootchain/sha.start", laid_bootchain_sha_start)], narrowed := true }
def RegisterCodeIgnoresInputsUptoSaid : Prop := registerCodeIgnoresInputsUptoRow.holds Tryd.pinned (OpenSpec.upto registerCodeIgnoresInputsSpec)

/-- 'bootchainlaw20.RegisterChainsBack', WHERE WHAT IT READS IS OF BULK AT MOST 1048576: true; the input reads as it did. -/
def registerChainsBackUptoRow : OpenClaim := { program := "ytcobalpbencboaadoor", sum := "d237dcf841348c2a36ba3fc480db657388977313e7ce8c5d3aeeac26276df608", func := "bootchain/bootchainlaw20.RegisterChainsBack", spec := "registerChainsBack", unfollowed := true, recurses := true, named := ["bootchain/sha.start", "bootchain/sha.constants"], apart := false, laid := [("bootchain/sha.constants", laid_bootchain_sha_constants), ("bootchain/sha.start", laid_bootchain_sha_start)], narrowed := true }
def RegisterChainsBackUptoSaid : Prop := registerChainsBackUptoRow.holds Tryd.pinned (OpenSpec.upto registerChainsBackSpec)

/-- 'bootchainlaw20.RegisterSeparatesFields', WHERE WHAT IT READS IS OF BULK AT MOST 1048576: true; the input reads as it did. -/
def registerSeparatesFieldsUptoRow : OpenClaim := { program := "ytcobalpbencboaadoor", sum := "d237dcf841348c2a36ba3fc480db657388977313e7ce8c5d3aeeac26276df608", func := "bootchain/bootchainlaw20.RegisterSeparatesFields", spec := "registerSeparatesFields", unfollowed := true, recurses := true, named := ["bootchain/sha.start", "bootchain/sha.constants"], apart := false, laid := [("bootchain/sha.constants", laid_bootchain_sha_constants), ("bootchain/sha.start", laid_bootchain_sha_start)], narrowed := true }
def RegisterSeparatesFieldsUptoSaid : Prop := registerSeparatesFieldsUptoRow.holds Tryd.pinned (OpenSpec.upto registerSeparatesFieldsSpec)

/-- 'bootchainlaw20.RegisterPointsProvable', WHERE WHAT IT READS IS OF BULK AT MOST 1048576: true; the input reads as it did. -/
def registerPointsProvableUptoRow : OpenClaim := { program := "ytcobalpbencboaadoor", sum := "d237dcf841348c2a36ba3fc480db657388977313e7ce8c5d3aeeac26276df608", func := "bootchain/bootchainlaw20.RegisterPointsProvable", spec := "registerPointsProvable", unfollowed := true, recurses := true, named := ["bootchain/sha.start", "bootchain/sha.constants"], apart := false, laid := [("bootchain/sha.constants", laid_bootchain_sha_constants), ("bootchain/sha.start", laid_bootchain_sha_start)], narrowed := true }
def RegisterPointsProvableUptoSaid : Prop := registerPointsProvableUptoRow.holds Tryd.pinned (OpenSpec.upto registerPointsProvableSpec)

end Rows
end Go.Proofs.YtcobalpbencboaaDoor
