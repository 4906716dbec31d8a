/- Rules for walking a program, second part: arrays, words, drawn regions, ranges over functions, structs. -/
import Derived.Deep.RegionHeld3
import Derived.RangeFuncNested
import Derived.RangeFuncBound
import Derived.RangeFuncCalls
import Derived.RangeFuncLeaves
import Derived.RangeFuncRecord
import Derived.WalkKit
import Derived.ProofKit
import Derived.OpenShut
import Derived.JoinedCond
import Derived.Carry
import Derived.Recover
import Derived.Lib.SliceRun
import Derived.Test.YtjapdhaimbalkaaDoorBa

/- Arrays sliced, slices taken for arrays, an array's bytes appended. General over the program. -/
namespace Go.Sl
set_option linter.unusedSimpArgs false
set_option linter.unusedVariables false
open Go.RowKit
variable {P : Program} {S : Snap} {M : List Chunk} {l : List Value} {ops : Array Oper} {rest : List Oper} {Q : Exit → Act → World → Prop} {D : List Deferred} {w : World} {ty : TypeId} {pos : String} {af : Array Edge} {d : Tmp}

theorem qt_arrSlice {T E : TypeId} {n : Nat} {x : Operand} {agg : Bool} {z : Nat} {zero : List Value} {bb b : Nat} (hx : evF l x = .pointer (some ⟨b, 0, none⟩)) (hT : ArrT P T n E) (hE : Ty P E agg z zero bb) :
    Qt P l (.slice T x none none none) S M (.slice (some ⟨b, 0, none⟩) n n) := fun dst ty pos af w hst => by
  have h1 : (Instr.sureAddr (.pointer (some ⟨b, 0, none⟩))).run P w = .ok ⟨b, 0, none⟩ w := rfl
  have h2 := run_bounds (P := P) (w := w) (lo := none) (hi := none) (mx := none) (len := n) (cap := n) (a := 0) (b := n) (m := n) (.inl ⟨rfl, rfl⟩) (.inl ⟨rfl, rfl⟩) (.inl ⟨rfl, rfl⟩) (Nat.zero_le _) (Nat.le_refl _) (Nat.le_refl _) (by simp) false
  simp [execOp, hx, Instr.sliceAt, run_underlying hT.u, hE.run_sizeOf, h1, h2, Addr.add]

theorem s_append_box {k j b : Nat} {x y : Operand} {v : Value} {t tx E e' B : TypeId} {agg : Bool} {z n m : Nat} {zero c c' : List Value} {bb : Nat} (hst : St S M w) (hx : evF l x = v) (hy : evF l y = .slice (some ⟨b, 0, none⟩) m m) (hk : M[k]? = some (.sl v E z n c)) (hj : M[j]? = some (.box b c' B))
    (hT : SlT P t E) (hE : Ty P E agg z zero bb) (hU : SlT P tx e') (hl : c'.length = m * z) (h1 : ∀ q ∈ c', q.oneCell' = true) (hb : (n + m) * bb ≤ 140737488355328) (hm : n + m ≤ 140737488355328) (hz : 0 < z)
    (h : ∀ v' w', St S ((M.set k (.sl v' E z (n + m) (c ++ c')))) w' → wpList P ops Q rest ⟨(l.set d v').toArray, D⟩ w') :
    wpList P ops Q (⟨some d, .call { callee := .builtin .append, args := #[x, y], argTypes := #[t, tx] }, ty, pos, af, none⟩ :: rest) ⟨l.toArray, D⟩ w := by
  have hs : Src P z tx (.slice (some ⟨b, 0, none⟩) m m) m c' w := by
    refine Src.ofSlice w hU.u _ _ _ _ hl (fun j u hu => ?_) h1
    have hg : w.heap[b]? = some (.cells c'.toArray B (0, 0)) := hst.get hj
    rw [Addr.add_mid, Nat.zero_add]
    simp only [World.cell?, hg]
    simpa using hu
  obtain ⟨v', w', hr, hst'⟩ := run_append (P := P) (ty := ty) hst hk hT hE hs hb hm hz
  refine step_value ?_ (h v' w' hst')
  simp [execOp, resolve, invoke, builtin, hx, hy, hr]

variable {α : Type} [Rep α]
theorem qt_arrayAt {T E : TypeId} {n : Nat} {x : Operand} {v : Value} {xs : List α} (hx : evF l x = v) (hv : RSl S v xs) (hT : ArrT P T n E) (hn : xs.length = n) (h0 : 0 < n) :
    ∃ p, Pt S p (⟨xs⟩ : Arr α n) ∧ Qt P l (.sliceToArrayPointer T x) S M p := by
  rcases hv with ⟨ad, cap, rfl, rfl, _⟩ | ⟨b, o, cap, c, TT, fz, rfl, hb, hc, hm, hRL⟩
  · simp at hn; omega
  · subst hn
    refine ⟨.pointer (some ⟨b, o, none⟩), ⟨b, o, c, TT, fz, rfl, hb, rfl, hRL.1, hRL.2⟩, fun dst ty pos af w hst => ?_⟩
    simp [execOp, hx, Instr.arrayAt, run_underlying hT.u]

class StrT (P : Program) (T : TypeId) : Prop where
  u : P.underlying T = some .string
theorem qt_len_str {T : TypeId} {x : Operand} {b : List UInt8} (hx : evF l x = .string ⟨b.toArray⟩) (hT : StrT P T) : Qt P l (.call { callee := .builtin .len, args := #[x], argTypes := #[T] }) S M (.int .i64 (b.length : Nat)) := fun dst ty pos af w hst => by
  simp [execOp, resolve, invoke, builtin, hx, Builtin.len_, run_underlying hT.u, goInt]
  rfl
theorem u8s_one (b : List UInt8) : ∀ q ∈ u8s b, q.oneCell' = true := by
  intro q hq
  simp only [u8s, List.mem_map] at hq
  obtain ⟨x, _, rfl⟩ := hq
  rfl
theorem u8s_length (b : List UInt8) : (u8s b).length = b.length := by simp [u8s]
end Go.Sl

/- Regions that draw their order and make memory: what reads is taken first, the rest comes in any order. General over the program. -/
namespace Go.Sl
set_option linter.unusedSimpArgs false
set_option linter.unusedVariables false
open Go.RowKit
section
variable {P : Program} {lo : List Oper} {Q : Exit → Act → World → Prop} {K : Act → World → Prop} {S : Snap} {M : List Chunk} {l : List Value} {D : List Deferred} {w : World} {bs : List Bool} {f : Nat} {o : Oper} {v : Value}

/-- Whatever order is picked from here on. -/
abbrev Any (P : Program) (lo : List Oper) (Q : Exit → Act → World → Prop) (S : Snap) (M : List Chunk) (f : Nat) (bs : List Bool) (l : List Value) (D : List Deferred) (w : World) : Prop :=
  wpAnyH P .any lo.toArray (NoPanic Q) (St S M) f bs.toArray ⟨l.toArray, D⟩ w

theorem h_begin {id : Nat} (hst : St S M w) (hm : P.follows .mixedOrders = true) (h : ∀ w', St S M w' → Any P lo Q S M lo.length (List.replicate lo.length false) l D w') : (Code.region id lo.toArray true).wp P Q ⟨l.toArray, D⟩ w := by
  refine wp_region_noPanic (wp_region_held_drew (S := St S M) hm hst.drew fun hd => ?_)
  have := h _ hd
  simpa [Any] using this

theorem take_core {k : Nat} (ho : lo[k]? = some o) (hs : Region.noSelect lo.toArray = true) (hf : Region.free .any lo.toArray bs.toArray k = true) (hr : (Region.ready .any lo.toArray bs.toArray).contains k = true)
    (hy : YieldsIf P lo.toArray (St S M) o v ⟨l.toArray, D⟩) (hst : St S M w) (h : Any P lo Q S M f (bs.set k true) (putD l o.dst v) D w) : Any P lo Q S M (f + 1) bs l D w := by
  refine wpAnyH_take (i := k) (by simpa using ho) hs hf hr (fun c a w h => h) hy hst ?_
  have e1 : bs.toArray.setIfInBounds k true = (bs.set k true).toArray := by simp
  have e2 : (⟨l.toArray, D⟩ : Act).put o.dst v = ⟨(putD l o.dst v).toArray, D⟩ := by cases o.dst <;> simp [Act.put, putD]
  rw [e1, e2]
  exact h

theorem h_take (k : Nat) (ho : lo[k]? = some o) (hs : Region.noSelect lo.toArray = true) (hf : Region.free .any lo.toArray bs.toArray k = true) (hr : (Region.ready .any lo.toArray bs.toArray).contains k = true)
    (hw : Region.wanted o (yielded lo.toArray l.toArray) = true) (hq : Qt P l o.op S M v) (hst : St S M w) (h : Any P lo Q S M f (bs.set k true) (putD l o.dst v) D w) : Any P lo Q S M (f + 1) bs l D w :=
  take_core ho hs hf hr (.inl ⟨hw, fun w' hw' => by rw [evF_eq]; exact hq o.dst o.type o.pos o.after w' hw'⟩) hst h
theorem h_takex (k : Nat) {F : Value → Prop} (ho : lo[k]? = some o) (hs : Region.noSelect lo.toArray = true) (hf : Region.free .any lo.toArray bs.toArray k = true) (hr : (Region.ready .any lo.toArray bs.toArray).contains k = true)
    (hw : Region.wanted o (yielded lo.toArray l.toArray) = true) (hq : ∃ v, F v ∧ Qt P l o.op S M v) (hst : St S M w) (h : ∀ v, F v → Any P lo Q S M f (bs.set k true) (putD l o.dst v) D w) : Any P lo Q S M (f + 1) bs l D w :=
  let ⟨v, hv, q⟩ := hq
  h_take k ho hs hf hr hw q hst (h v hv)
theorem h_takeno (k : Nat) (ho : lo[k]? = some o) (hs : Region.noSelect lo.toArray = true) (hf : Region.free .any lo.toArray bs.toArray k = true) (hr : (Region.ready .any lo.toArray bs.toArray).contains k = true)
    (hw : Region.wanted o (yielded lo.toArray l.toArray) = false) (hst : St S M w) (h : Any P lo Q S M f (bs.set k true) (putD l o.dst undef) D w) : Any P lo Q S M (f + 1) bs l D w :=
  take_core ho hs hf hr (.inr ⟨hw, rfl⟩) hst h

theorem wpOp_of_list {a : Act} {k : Nat} {ops : Array Oper} (ho : ops[k]? = some o) (h : wpList P ops (Exit.then K Q) [o] a w) : wpOp P ops Q k K a w := by
  unfold wpOp
  rw [ho]
  exact h

/-- What has been kept back while an operation runs. -/
def Rest (P : Program) (lo : List Oper) (Q : Exit → Act → World → Prop) (S : Snap) (M : List Chunk) (f : Nat) (bs : List Bool) (K : Act → World → Prop) : Prop :=
  ∀ l D w, St S M w → Any P lo Q S M f bs l D w → K ⟨l.toArray, D⟩ w

theorem run_core {k : Nat} (ho : lo[k]? = some o) (h : ∀ K, Rest P lo Q S M f (bs.set k true) K → wpList P lo.toArray (Exit.then K (NoPanic Q)) [o] ⟨l.toArray, D⟩ w) :
    wpOp P lo.toArray (NoPanic Q) k (fun a' w' => St S M w' ∧ wpAnyH P .any lo.toArray (NoPanic Q) (St S M) f (bs.toArray.setIfInBounds k true) a' w') ⟨l.toArray, D⟩ w := by
  refine wpOp_of_list (by simpa using ho) (h _ fun l D w hst hA => ⟨hst, ?_⟩)
  have e1 : bs.toArray.setIfInBounds k true = (bs.set k true).toArray := by simp
  rw [e1]
  exact hA

theorem h_one (k : Nat) (ho : lo[k]? = some o) (hr : Region.ready .any lo.toArray bs.toArray = [k])
    (h : ∀ K, Rest P lo Q S M f (bs.set k true) K → wpList P lo.toArray (Exit.then K (NoPanic Q)) [o] ⟨l.toArray, D⟩ w) : Any P lo Q S M (f + 1) bs l D w := by
  refine wpAnyH_all hr (by simp) fun i hi => ?_
  obtain rfl := List.mem_singleton.1 hi
  exact run_core ho h
theorem h_two (j k : Nat) {o' : Oper} (ho : lo[j]? = some o) (ho' : lo[k]? = some o') (hr : Region.ready .any lo.toArray bs.toArray = [j, k])
    (h : ∀ K, Rest P lo Q S M f (bs.set j true) K → wpList P lo.toArray (Exit.then K (NoPanic Q)) [o] ⟨l.toArray, D⟩ w)
    (h' : ∀ K, Rest P lo Q S M f (bs.set k true) K → wpList P lo.toArray (Exit.then K (NoPanic Q)) [o'] ⟨l.toArray, D⟩ w) : Any P lo Q S M (f + 1) bs l D w := by
  refine wpAnyH_all hr (by simp) fun i hi => ?_
  rcases List.mem_cons.1 hi with rfl | hi
  · exact run_core ho h
  · obtain rfl := List.mem_singleton.1 hi
    exact run_core ho' h'
theorem h_next {ops : Array Oper} {Q' : Exit → Act → World → Prop} (hK : Rest P lo Q S M f bs K) (hst : St S M w) (h : Any P lo Q S M f bs l D w) : wpList P ops (Exit.then K Q') [] ⟨l.toArray, D⟩ w := hK l D w hst h
theorem h_done (hr : Region.ready .any lo.toArray bs.toArray = []) (h : Q .normal ⟨l.toArray, D⟩ w) : Any P lo Q S M f bs l D w := wpAnyH_done hr (NoPanic.normal h) f
theorem g_any (h : Any P lo Q S M f bs l D w) : Any P lo Q S M f bs l D w := h
theorem g_nil {ops : Array Oper} {a : Act} (h : wpList P ops Q [] a w) : wpList P ops Q [] a w := h
theorem g_cons {ops : Array Oper} {rest : List Oper} {a : Act} (h : wpList P ops Q (o :: rest) a w) : wpList P ops Q (o :: rest) a w := h
theorem k_lit {ops : Array Oper} {rest : List Oper} {a : Act} {dd : Option Tmp} {T ty : TypeId} {n : Nat} {ps : Array (Nat × Operand)} {pos : String} {af : Array Edge} {g : Option (Nat × Bool)} (h : wpList P ops Q (⟨dd, .buildSlice T n ps, ty, pos, af, g⟩ :: rest) a w) : wpList P ops Q (⟨dd, .buildSlice T n ps, ty, pos, af, g⟩ :: rest) a w := h
end
end Go.Sl

/- Data whose cells are known: loaded as such. General over the program. -/
namespace Go.Sl
set_option linter.unusedSimpArgs false
set_option linter.unusedVariables false
open Go.RowKit
variable {P : Program} {S : Snap} {M : List Chunk} {l : List Value} {α : Type} [Rep α]
/-- Data that determine their cells. -/
class FlatC (α : Type) [Rep α] (cells : outParam (α → List Value)) : Prop where
  flat : ∀ {S : Snap} {cs : List Value} {x : α}, Rep.R S cs x → cs = cells x
theorem qt_ldp_flat {cells : α → List Value} {T : TypeId} {x : Operand} {zero : List Value} {bb : Nat} {p : Value} {y : α} (hx : evF l x = p) (hp : Pt S p y) (hF : FlatC α cells) (hT : Ty P T (Rep.agg α) (Rep.z α) zero bb) (ha : Rep.agg α = true) :
    Qt P l (.load T x) S M (.agg (cells y).toArray) := fun dst ty pos af w hst => by
  obtain ⟨v, ⟨cs, rfl, hR⟩, hq⟩ := qt_ldp (P := P) (M := M) (l := l) hx hp hT
  have := hq dst ty pos af w hst
  rw [hF.flat hR, ha] at this
  exact this
theorem qt_rem_b {T U : TypeId} {x y : Operand} {k : IntKind} {a b c : Int} (hx : evF l x = .int k a) (hy : evF l y = .int k b) (hb : b ≠ 0) (h : a.tmod b = c) : Qt P l (.binOp .rem T x y U) S M (.int k c) := fun dst ty pos af w _ => by
  simp [execOp, hx, hy, eqGuard_at_int, binOp_rem, Op.intDiv, hb, h]
/-- A type of integers; and any type that stands in the program. -/
class IntT (P : Program) (T : TypeId) (k : outParam IntKind) : Prop where
  u : P.underlying T = some (.int k)
theorem qt_conv_b {T U : TypeId} {x : Operand} {k k1 k2 : IntKind} {n m : Int} (hx : evF l x = .int k n) (hT : IntT P T k1) (hU : IntT P U k2) (h : k2.wrap n = m) : Qt P l (.convert T U x) S M (.int k2 m) := fun dst ty pos af w _ => by
  simp [execOp, hx, convert, run_underlying hT.u, run_underlying hU.u, Conv.intToInt, h]
theorem wrap_sm {n : Int} (h : 0 ≤ n ∧ n < 9223372036854775808) : IntKind.i64.wrap n = n := by
  simp only [IntKind.wrap, IntKind.bits, IntKind.signed]
  simp
  omega
theorem kq_conv {K : Act → Prop} {ops : Array Oper} {rest : List Oper} {ty : TypeId} {pos : String} {af : Array Edge} {dd : Option Tmp} {x : Operand} {T U : TypeId} {g : Option (Nat × Bool)} {a : Act} (h : wpQuiet P ops (St S M) K (⟨dd, .convert T U x, ty, pos, af, g⟩ :: rest) a) : wpQuiet P ops (St S M) K (⟨dd, .convert T U x, ty, pos, af, g⟩ :: rest) a := h
theorem tmod_nn {a b : Int} (h : 0 ≤ a) : a.tmod b = a % b := Int.tmod_eq_emod_of_nonneg h
end Go.Sl

/- 32-bit words. General over the program. -/
namespace Go.Sl
set_option linter.unusedSimpArgs false
set_option linter.unusedVariables false
open Go.RowKit
variable {P : Program} {S : Snap} {M : List Chunk} {l : List Value}

instance instRepU32 : Rep UInt32 where
  z := 1
  agg := false
  R _ cs x := cs = [.int .u32 x.toNat]
  mono _ h := h
  len h := by rw [h]; rfl
  one h := by rw [h]; intro u hu; simp at hu; subst hu; rfl
  z1 _ := rfl
def u32C (x : UInt32) : List Value := [.int .u32 (x.toNat : Int)]

def shl (x : UInt32) (n : Nat) : UInt32 := ⟨x.toBitVec <<< n⟩
def shr (x : UInt32) (n : Nat) : UInt32 := ⟨x.toBitVec >>> n⟩

theorem ofInt_u32 (x : UInt32) : BitVec.ofInt 32 (x.toNat : Int) = x.toBitVec := by
  rw [BitVec.ofInt_natCast]; exact BitVec.ofNat_toNat ..
theorem wrap_u32 {n : Nat} (h : n < 4294967296) : IntKind.u32.wrap (n : Int) = n := by
  simp only [IntKind.wrap, IntKind.bits, IntKind.signed]
  simp
  omega
theorem wrap_u32_mod (n : Nat) : IntKind.u32.wrap (n : Int) = (n % 4294967296 : Nat) := by
  simp only [IntKind.wrap, IntKind.bits, IntKind.signed]
  simp
theorem bits_xor32 (a b : UInt32) : bits .xor .u32 (a.toNat : Int) (b.toNat : Int) = ((a ^^^ b).toNat : Int) := by
  show IntKind.u32.wrap ((BitVec.ofInt 32 (a.toNat : Int) ^^^ BitVec.ofInt 32 (b.toNat : Int)).toNat : Int) = _
  rw [ofInt_u32, ofInt_u32, wrap_u32 (BitVec.isLt _)]
  rfl
theorem bits_and32 (a b : UInt32) : bits .and .u32 (a.toNat : Int) (b.toNat : Int) = ((a &&& b).toNat : Int) := by
  show IntKind.u32.wrap ((BitVec.ofInt 32 (a.toNat : Int) &&& BitVec.ofInt 32 (b.toNat : Int)).toNat : Int) = _
  rw [ofInt_u32, ofInt_u32, wrap_u32 (BitVec.isLt _)]
  rfl
theorem bits_or32 (a b : UInt32) : bits .or .u32 (a.toNat : Int) (b.toNat : Int) = ((a ||| b).toNat : Int) := by
  show IntKind.u32.wrap ((BitVec.ofInt 32 (a.toNat : Int) ||| BitVec.ofInt 32 (b.toNat : Int)).toNat : Int) = _
  rw [ofInt_u32, ofInt_u32, wrap_u32 (BitVec.isLt _)]
  rfl
theorem wrap_shl (x : UInt32) (n : Nat) : IntKind.u32.wrap ((x.toNat : Int) * 2 ^ n) = ((shl x n).toNat : Int) := by
  have e : ((x.toNat : Int) * 2 ^ n) = ((x.toNat * 2 ^ n : Nat) : Int) := by push_cast; rfl
  rw [e, wrap_u32_mod]
  congr 1
  show _ = (x.toBitVec <<< n).toNat
  rw [BitVec.toNat_shiftLeft, Nat.shiftLeft_eq]
  rfl
theorem fdiv_shr (x : UInt32) (n : Nat) : Int.fdiv (x.toNat : Int) (2 ^ n) = ((shr x n).toNat : Int) := by
  have e : ((2 : Int) ^ n) = ((2 ^ n : Nat) : Int) := by push_cast; rfl
  rw [e, ← Int.ofNat_fdiv]
  congr 1
  show _ = (x.toBitVec >>> n).toNat
  rw [BitVec.toNat_ushiftRight, Nat.shiftRight_eq_div_pow]
  rfl

section
variable {T U : TypeId} {x y : Operand} {a b : UInt32}
theorem qt_xor32 (hx : evF l x = .int .u32 (a.toNat : Int)) (hy : evF l y = .int .u32 (b.toNat : Int)) : Qt P l (.binOp .xor T x y U) S M (.int .u32 ((a ^^^ b).toNat : Int)) := fun dst ty pos af w _ => by
  simp [execOp, hx, hy, eqGuard_at_int, binOp_xor, intBits_xor, bits_xor32]
theorem qt_and32 (hx : evF l x = .int .u32 (a.toNat : Int)) (hy : evF l y = .int .u32 (b.toNat : Int)) : Qt P l (.binOp .and T x y U) S M (.int .u32 ((a &&& b).toNat : Int)) := fun dst ty pos af w _ => by
  simp [execOp, hx, hy, eqGuard_at_int, binOp_and, intBits_and, bits_and32]
theorem qt_or32 (hx : evF l x = .int .u32 (a.toNat : Int)) (hy : evF l y = .int .u32 (b.toNat : Int)) : Qt P l (.binOp .or T x y U) S M (.int .u32 ((a ||| b).toNat : Int)) := fun dst ty pos af w _ => by
  simp [execOp, hx, hy, eqGuard_at_int, binOp_or, intBits_or, bits_or32]
theorem qt_add32 (hx : evF l x = .int .u32 (a.toNat : Int)) (hy : evF l y = .int .u32 (b.toNat : Int)) : Qt P l (.binOp .add T x y U) S M (.int .u32 ((a + b).toNat : Int)) := fun dst ty pos af w _ => by
  have e : IntKind.u32.wrap ((a.toNat : Int) + (b.toNat : Int)) = ((a + b).toNat : Int) := by
    rw [← Int.natCast_add, wrap_u32_mod, UInt32.toNat_add]
  simp [execOp, hx, hy, binOp_add, eqGuard_add, Op.intArith, e]
theorem qt_shl32 {k : IntKind} {n : Int} (hx : evF l x = .int .u32 (a.toNat : Int)) (hy : evF l y = .int k n) (hn : 0 ≤ n ∧ n ≤ 32) : Qt P l (.binOp .shl T x y U) S M (.int .u32 ((shl a n.toNat).toNat : Int)) := fun dst ty pos af w _ => by
  obtain ⟨m, rfl⟩ : ∃ m : Nat, n = m := ⟨n.toNat, by omega⟩
  rw [Int.toNat_natCast]
  have h0 : ¬ ((m : Int) < 0) := by omega
  have e : min m 32 = m := by omega
  have e2 := wrap_shl a m
  simp [execOp, hx, hy, eqGuard_at_int, binOp, Op.shift, IntKind.bits, e, e2]
theorem qt_shr32 {k : IntKind} {n : Int} (hx : evF l x = .int .u32 (a.toNat : Int)) (hy : evF l y = .int k n) (hn : 0 ≤ n ∧ n ≤ 32) : Qt P l (.binOp .shr T x y U) S M (.int .u32 ((shr a n.toNat).toNat : Int)) := fun dst ty pos af w _ => by
  obtain ⟨m, rfl⟩ : ∃ m : Nat, n = m := ⟨n.toNat, by omega⟩
  rw [Int.toNat_natCast]
  have h0 : ¬ ((m : Int) < 0) := by omega
  have e : min m 32 = m := by omega
  have e2 := fdiv_shr a m
  rw [Int.fdiv_eq_ediv_of_nonneg _ (Int.le_of_lt (Int.pow_pos (by decide)))] at e2
  simp [execOp, hx, hy, eqGuard_at_int, binOp, Op.shift, IntKind.bits, e, e2]
theorem qt_conv832 {b : UInt8} (hx : evF l x = .int .u8 (b.toNat : Int)) (hT : IntT P T .u8) (hU : IntT P U .u32) : Qt P l (.convert T U x) S M (.int .u32 ((UInt32.ofNat b.toNat).toNat : Int)) :=
  qt_conv_b hx hT hU (by
    have := b.toNat_lt
    rw [wrap_u32 (by omega), UInt32.toNat_ofNat_of_lt' (by have : UInt32.size = 4294967296 := rfl; omega)])
theorem qt_conv3264 (hx : evF l x = .int .u32 (a.toNat : Int)) (hT : IntT P T .u32) (hU : IntT P U .u64) : Qt P l (.convert T U x) S M (.int .u64 (a.toNat : Int)) :=
  qt_conv_b hx hT hU (by
    have := a.toNat_lt
    simp only [IntKind.wrap, IntKind.bits, IntKind.signed]
    simp
    omega)
theorem qt_not32 (hx : evF l x = .int .u32 (a.toNat : Int)) : Qt P l (.unOp .xor T x) S M (.int .u32 ((4294967295 ^^^ a : UInt32).toNat : Int)) := fun dst ty pos af w _ => by
  have e := bits_xor32 4294967295 a
  rw [show (((4294967295 : UInt32).toNat : Nat) : Int) = 4294967295 from rfl] at e
  simp [execOp, hx, unary_xor, intBits_xor, IntKind.signed, IntKind.max, IntKind.bits, e]
end

/-! ### Words in memory -/
theorem cF_u32_len (ws : List UInt32) : (cF u32C ws).length = ws.length := by
  have := cF_len (f := u32C) (z := 1) (fun _ => rfl) ws
  omega
theorem cF_u32_get (ws : List UInt32) (j : Nat) (h : j < ws.length) : ((cF u32C ws).drop j).take 1 = [.int .u32 ((ws.getD j 0).toNat : Int)] := by
  have := cF_get (f := u32C) (z := 1) (fun _ => rfl) ws j h
  rw [Nat.mul_one] at this
  rw [this, List.getD_eq_getElem?_getD, List.getElem?_eq_getElem h]
  rfl
theorem cF_u32_set (ws : List UInt32) (j : Nat) (h : j < ws.length) (y : UInt32) : (cF u32C ws).take j ++ [.int .u32 (y.toNat : Int)] ++ (cF u32C ws).drop (j + 1) = cF u32C (ws.set j y) := by
  have := cF_set (f := u32C) (z := 1) (fun _ => rfl) ws j h y
  rw [Nat.mul_one] at this
  exact this
section
variable {ops : Array Oper} {rest : List Oper} {Q : Exit → Act → World → Prop} {D : List Deferred} {w : World} {d : Tmp} {dd : Option Tmp} {ty : TypeId} {pos : String} {af : Array Edge}
theorem rfX {p : Prop} (h : p := by with_unfolding_all exact rfl) : p := h
/-- A whole box that holds an array. -/
theorem qt_loadA {T B : TypeId} {x : Operand} {zero c : List Value} {z bb b k : Nat} (hx : evF l x = .pointer (some ⟨b, 0, none⟩)) (hk : M[k]? = some (.box b c B)) (hT : Ty P T true z zero bb) (hl : c.length = z) : Qt P l (.load T x) S M (.agg c.toArray) := by
  have := qt_load (P := P) (l := l) (S := S) (cs := c) hx k hk hT (by rw [List.drop_zero, ← hl, List.take_length]) hl
  exact this
theorem qt_ldW {T B : TypeId} {x : Operand} {zero : List Value} {bb b off k : Nat} {ws : List UInt32} (hx : evF l x = .pointer (some ⟨b, off, none⟩)) (hk : M[k]? = some (.box b (cF u32C ws) B))
    (hT : Ty P T false 1 zero bb) (hl : off < ws.length) : Qt P l (.load T x) S M (.int .u32 ((ws.getD off 0).toNat : Int)) :=
  qt_load hx k hk hT (cF_u32_get ws off hl) rfl
theorem qt_ldU {T F : TypeId} {x : Operand} {zero : List Value} {bb : Nat} {v p : Value} {j k n : Nat} {ws : List UInt32} (hx : evF l x = p) (hp : PtO v p (j * 1)) (hk : M[k]? = some (.sl v F 1 n (cF u32C ws)))
    (hT : Ty P T false 1 zero bb) (hl : j < ws.length) : Qt P l (.load T x) S M (.int .u32 ((ws.getD j 0).toNat : Int)) := by
  rw [Nat.mul_one] at hp
  exact qt_load_own (S := S) hx hp hk hT (cF_u32_get ws j hl) (by rw [cF_u32_len]; omega)
theorem qt_ldp_u32 {T : TypeId} {x : Operand} {zero : List Value} {bb : Nat} {p : Value} {y : UInt32} (hx : evF l x = p) (hp : Pt S p y) (hT : Ty P T false 1 zero bb) : Qt P l (.load T x) S M (.int .u32 (y.toNat : Int)) := by
  obtain ⟨v, ⟨cs, rfl, hR⟩, hq⟩ := qt_ldp (P := P) (M := M) (l := l) hx hp hT
  obtain rfl : cs = _ := hR
  exact hq
theorem s_stW {T B : TypeId} {x y : Operand} {zero : List Value} {bb b off k : Nat} {ws : List UInt32} {u : UInt32} (hst : St S M w) (hx : evF l x = .pointer (some ⟨b, off, none⟩)) (hk : M[k]? = some (.box b (cF u32C ws) B))
    (hT : Ty P T false 1 zero bb) (hy : evF l y = .int .u32 (u.toNat : Int)) (hl : off < ws.length)
    (h : ∀ w', St S (M.set k (.box b (cF u32C (ws.set off u)) B)) w' → wpList P ops Q rest ⟨l.toArray, D⟩ w') :
    wpList P ops Q (⟨none, .store T x y, ty, pos, af, none⟩ :: rest) ⟨l.toArray, D⟩ w :=
  s_store hst hx k hk hT hy (cs := [.int .u32 (u.toNat : Int)]) rfl rfl rfl (by rw [cF_u32_len]; omega) fun w' h' => h w' (by rw [cF_u32_set ws off hl] at h'; exact h')
theorem s_stU {T F : TypeId} {x y : Operand} {zero : List Value} {bb : Nat} {v p : Value} {j k n : Nat} {ws : List UInt32} {u : UInt32} (hst : St S M w) (hx : evF l x = p) (hp : PtO v p (j * 1)) (hk : M[k]? = some (.sl v F 1 n (cF u32C ws)))
    (hT : Ty P T false 1 zero bb) (hy : evF l y = .int .u32 (u.toNat : Int)) (hl : j < ws.length)
    (h : ∀ w', St S (M.set k (.sl v F 1 n (cF u32C (ws.set j u)))) w' → wpList P ops Q rest ⟨l.toArray, D⟩ w') :
    wpList P ops Q (⟨none, .store T x y, ty, pos, af, none⟩ :: rest) ⟨l.toArray, D⟩ w := by
  rw [Nat.mul_one] at hp
  exact s_store_own hst hx hp hk hT hy (cs := [.int .u32 (u.toNat : Int)]) rfl rfl rfl (by rw [cF_u32_len]; omega) fun w' h' => h w' (by rw [cF_u32_set ws j hl] at h'; exact h')
/-- An element of an array of words that is a value. -/
theorem qt_indexW {T E : TypeId} {n : Nat} {x i : Operand} {zero : List Value} {bb : Nat} {ws : List UInt32} {k : IntKind} {j : Int} (hx : evF l x = .agg (cF u32C ws).toArray) (hi : evF l i = .int k j)
    (hT : ArrT P T n E) (hE : Ty P E false 1 zero bb) (h0 : 0 ≤ j) (hn : j.toNat < n) (hl : j.toNat < ws.length) : Qt P l (.index T x i) S M (.int .u32 ((ws.getD j.toNat 0).toNat : Int)) :=
  qt_indexV (es := [.int .u32 ((ws.getD j.toNat 0).toNat : Int)]) hx hi hT hE h0 hn (by rw [Nat.mul_one]; exact cF_u32_get ws _ hl) rfl
/-- An array literal. -/
theorem qt_buildA {T E : TypeId} {n z ze : Nat} {ps : List (Nat × Operand)} {zero zeroE : List Value} {bb be : Nat} {agg : Bool} {cs : List Value} (hT : ArrT P T n E) (hE : Ty P E agg ze zeroE be) (hZ : Ty P T true z zero bb)
    (hf : Instr.fill (fun i => some (i * ze, ze)) zero.toArray (ps.map fun q => (q.1, evF l q.2)) = some cs.toArray) : Qt P l (.build T ps.toArray) S M (.agg cs.toArray) := fun dst ty pos af w _ => by
  have hcz : (vOf true zero).cells = zero.toArray := rfl
  have e : (Array.map (fun x : Nat × Operand => (x.fst, evF l x.snd)) ps.toArray).toList = ps.map fun q => (q.1, evF l q.2) := by simp
  simp only [execOp, Instr.build, Sem.run_bind, hZ.run_zero, Result.andThen_ok, run_underlying hT.u, hE.run_sizeOf, hcz, e, hf, Sem.run_pure]
theorem zip_parts {ι : Type} {f : ι → Value} : ∀ (ps : List (Nat × ι)) (i : Nat), ps.map (·.1) = List.range' i ps.length → ps.map (fun q => (q.1, f q.2)) = ((ps.map fun q => f q.2).zipIdx i).map fun p => (p.2, p.1)
  | [], _, _ => rfl
  | p :: r, i, h => by
    rw [List.map_cons, List.length_cons, List.range'_succ] at h
    have h1 : p.1 = i := (List.cons.inj h).1
    simp only [List.map_cons, List.zipIdx_cons, h1]
    rw [zip_parts r (i + 1) (List.cons.inj h).2]
/-- An array literal of one-cell values, all given. -/
theorem qt_buildW {T E : TypeId} {n z : Nat} {ps : List (Nat × Operand)} {zero zeroE : List Value} {bb be : Nat} {cs : List Value} (hT : ArrT P T n E) (hE : Ty P E false 1 zeroE be) (hZ : Ty P T true z zero bb)
    (hi : ps.map (·.1) = List.range' 0 ps.length) (hn : ps.length = zero.length) (hv : ps.map (fun q => evF l q.2) = cs) (h1 : ∀ v ∈ cs, v.cells = #[v]) : Qt P l (.build T ps.toArray) S M (.agg cs.toArray) := by
  refine qt_buildA hT hE hZ ?_
  rw [zip_parts ps 0 hi, hv]
  have hl : cs.length = zero.length := by rw [← hv, List.length_map, hn]
  have := fill_all (z := 1) cs 0 zero (fun v hv => by rw [h1 v hv]; rfl) (by omega)
  rw [this]
  have e : (cs.map fun v => v.cells.toList).flatten = cs := by
    clear this hl hv
    induction cs with
    | nil => rfl
    | cons v r ih => rw [List.map_cons, List.flatten_cons, ih (fun u hu => h1 u (.tail _ hu)), h1 v (.head _)]; rfl
  simp [e]
theorem rl_u32_mk {S : Snap} (xs : List UInt32) : RL S (cF u32C xs) xs := by
  refine ⟨by rw [cF_u32_len]; simp [Rep.z], fun i x hx => ?_⟩
  obtain ⟨hi, rfl⟩ := List.getElem?_eq_some_iff.1 hx
  show ((cF u32C xs).drop (i * 1)).take 1 = _
  rw [Nat.mul_one, cF_u32_get xs i hi, List.getD_eq_getElem?_getD, hx]
  rfl
theorem lit_u32 {S : Snap} {M : List Chunk} {w : World} {v : Value} {n : Nat} {c : List Value} {T : TypeId} (xs : List UInt32) (h : St S (.sl v T 1 n c :: M) w) (hc : c = cF u32C xs) (hn : n = xs.length) : ∃ S', S.Le S' ∧ St S' M w ∧ RSl S' v xs := by
  subst hc
  exact St.freeze (α := UInt32) h (rl_u32_mk xs) hn
theorem k_conv {x : Operand} {T U : TypeId} {g : Option (Nat × Bool)} {a : Act} (h : wpList P ops Q (⟨dd, .convert T U x, ty, pos, af, g⟩ :: rest) a w) : wpList P ops Q (⟨dd, .convert T U x, ty, pos, af, g⟩ :: rest) a w := h
theorem s_stringI {src dst E : TypeId} {x : Operand} {v : Value} {b : List UInt8} (hst : St S M w) (hx : evF l x = v) (hv : RSl S v b) (hs : SlT P src E) (he : IntT P E .u8) (hd : StrT P dst)
    (h : wpList P ops Q rest ⟨(l.set d (.string ⟨b.toArray⟩)).toArray, D⟩ w) :
    wpList P ops Q (⟨some d, .convert src dst x, ty, pos, af, none⟩ :: rest) ⟨l.toArray, D⟩ w := s_string hst hx hv hs he.u hd.u h
theorem k_build {T : TypeId} {ps : Array (Nat × Operand)} {g : Option (Nat × Bool)} {a : Act} (h : wpList P ops Q (⟨dd, .build T ps, ty, pos, af, g⟩ :: rest) a w) : wpList P ops Q (⟨dd, .build T ps, ty, pos, af, g⟩ :: rest) a w := h
theorem k_un {x : Operand} {T : TypeId} {u : UnOp} {g : Option (Nat × Bool)} {a : Act} (h : wpList P ops Q (⟨dd, .unOp u T x, ty, pos, af, g⟩ :: rest) a w) : wpList P ops Q (⟨dd, .unOp u T x, ty, pos, af, g⟩ :: rest) a w := h
end
end Go.Sl

/- Operations in a round of a range over a function, and in an iterator, by the plain rules. General over the program. -/
namespace Go.Sl
set_option linter.unusedSimpArgs false
set_option linter.unusedVariables false
open Go.RowKit
variable {P : Program}

/-- A fence that asks nothing, in a round or not. -/
def Wd (F : Fence) : Prop := F = Fence.wide ∨ ∃ r, F = Fence.wide.inRound r
theorem Wd.fn {F : Fence} (h : Wd F) (f : FuncId) : F.fn f := by rcases h with rfl | ⟨r, rfl⟩ <;> trivial
theorem Wd.depth {F : Fence} (h : Wd F) : F.depth = none := by rcases h with rfl | ⟨r, rfl⟩ <;> rfl
theorem Wd.calls {F : Fence} (h : Wd F) {n : Nat} {f : FuncId} {args : Array Value} {w : World} {R : Ending → World → Prop} (c : Calls P f args w R) : CallsIn F n P f args w R := by
  rcases h with rfl | ⟨r, rfl⟩
  · exact callsIn_wide.2 c
  · exact CallsIn.inRound r (callsIn_wide.2 c)
theorem Wd.fenced {F : Fence} (h : Wd F) {m m' : Machine} (s : Steps P m m') : StepsIn (Machine.fenced P F) P m m' := by
  rcases h with rfl | ⟨r, rfl⟩
  · exact stepsIn_wide.2 s
  · rw [fenced_inRound]; exact stepsIn_wide.2 s
theorem Wd.rows {F : Fence} (h : Wd F) {n : Nat} {row : String} {args : Array Value} {w : World} {R : Value → World → Prop} (c : Rows P row args w R) : RowsIn F n P row args w R :=
  fun c0 cs _ => let ⟨v, w', r, s⟩ := c c0 cs; ⟨v, w', r, h.fenced s⟩

/-- No operation is a defer statement. -/
def noDefer (l : List Oper) : Bool := l.all fun o => match o.op with | .defer _ => false | _ => true

theorem operIn {F : Fence} (hF : Wd F) {n : Nat} {o : Oper} {a : Act} {w : World} {K K' : Act → World → Prop} {Q Q' : Exit → Act → World → Prop} (hd : ∀ c, o.op ≠ .defer c) (hK : ∀ a w, K a w → K' a w)
    (hQ : ¬ LetsOut Q) (hQQ : ∀ c a w, Q (.panic c) a w → Q' (.panic c) a w) (h : o.wp P a w K Q) : o.wpIn F n P a w K' Q' := by
  refine ⟨fun f _ => hF.fn f, ?_⟩
  rw [Oper.semAt_eq _ _ _ hd]
  unfold Oper.wp at h
  have hn : F.depth.isSome = true → 1 ≤ n := by rw [hF.depth]; intro h; cases h
  generalize (execOp a.eval o).run P w = r at h ⊢
  cases r with
  | ok x w' =>
    cases x with
    | value v => exact hK _ _ h
    | skip => exact hK _ _ h
    | defer d => exact hK _ _ h
    | enter f args =>
      refine ⟨hn, hF.calls (Calls.mono h fun e w'' he => ?_)⟩
      cases e with
      | returned v => exact hK _ _ he
      | panicked c => exact hQQ _ _ _ he
      | outgrown => exact (hQ he).elim
    | row row args => exact ⟨hn, (hF.rows h).mono fun v w'' he => hK _ _ he⟩
    | _ => exact h.elim
  | halt x w' =>
    cases x with
    | panic v => exact hQQ _ _ _ h
    | _ => exact h.elim

/-- The first operations by the plain rules, the rest as it may be. -/
theorem listIn {F : Fence} (hF : Wd F) {n : Nat} {ops : Array Oper} {Q : Exit → Act → World → Prop} (hQ : ¬ LetsOut Q) {rest : List Oper} {K : Act → World → Prop} (hK : ∀ a w, K a w → wpListIn F n P ops Q rest a w) :
    ∀ (pre : List Oper), noDefer pre = true → ∀ (a : Act) (w : World), wpList P ops (Exit.then K Q) pre a w → wpListIn F n P ops Q (pre ++ rest) a w
  | [], _, a, w, h => hK a w h
  | o :: pre, hd, a, w, h => by
    simp only [noDefer, List.all_cons, Bool.and_eq_true] at hd
    have hd1 : ∀ c, o.op ≠ .defer c := fun c e => by rw [e] at hd; simp at hd
    have hLQ : ¬ LetsOut (Exit.then K Q) := fun ⟨a, w, h⟩ => hQ ⟨a, w, h⟩
    rw [List.cons_append]
    unfold wpListIn
    unfold wpList at h
    by_cases hw : Region.wanted o (yielded ops a.tmps) = true
    · rw [if_pos hw] at h ⊢
      rcases h with h | ⟨_, h⟩
      · exact operIn hF hd1 (fun a w h => listIn hF hQ hK pre hd.2 a w h) hLQ (fun c a w h => h) h
      · exact (hLQ h).elim
    · rw [if_neg hw] at h ⊢
      exact ⟨fun f _ => hF.fn f, listIn hF hQ hK pre hd.2 _ _ h⟩

/-- A plain region in a round. -/
theorem regionIn {F : Fence} (hF : Wd F) {n id : Nat} {l : List Oper} {Q : Exit → Act → World → Prop} (hQ : ¬ LetsOut Q) {a : Act} {w : World} (hd : noDefer l = true) (h : wpList P l.toArray Q l a w) : (Code.region id l.toArray false).wpIn F n P Q a w := by
  refine wpIn_region_lit ?_
  have := listIn (n := n) (rest := []) (K := Q .normal) hF hQ (fun a w h => h) l hd a w (ops := l.toArray) (by
    have e : Exit.then (Q .normal) Q = Q := by funext e a w; cases e <;> rfl
    rw [e]; exact h)
  rwa [List.append_nil] at this

theorem opsIn {F : Fence} (hF : Wd F) {n : Nat} {ops : Array Oper} {Q : Exit → Act → World → Prop} (hQ : ¬ LetsOut Q) (hd : noDefer ops.toList = true) :
    ∀ (l : List Nat) (a : Act) (w : World), wpOps P ops Q l a w → wpOpsIn F n P ops Q l a w
  | [], a, w, h => h
  | i :: l, a, w, h => by
    unfold wpOpsIn
    unfold wpOps at h
    cases ho : ops[i]? with
    | none => rw [ho] at h; exact opsIn hF hQ hd l a w h
    | some o =>
      rw [ho] at h
      have hd1 : ∀ c, o.op ≠ .defer c := fun c e => by
        have := List.all_eq_true.1 hd o (by rw [Array.mem_toList_iff]; exact Array.mem_of_getElem? ho)
        simp only [e] at this
        exact absurd this (by decide)
      simp only at h ⊢
      by_cases hw : Region.wanted o (yielded ops a.tmps) = true
      · rw [if_pos hw] at h ⊢
        rcases h with h | ⟨_, h⟩
        · exact operIn hF hd1 (fun a w h => opsIn hF hQ hd l a w h) hQ (fun c a w h => h) h
        · exact (hQ h).elim
      · rw [if_neg hw] at h ⊢
        exact ⟨fun f _ => hF.fn f, opsIn hF hQ hd l _ _ h⟩

/-- A region that draws its order, in a round. -/
theorem drawnIn {F : Fence} (hF : Wd F) {n id : Nat} {ops : Array Oper} {Q : Exit → Act → World → Prop} (hQ : ¬ LetsOut Q) {a : Act} {w : World} (hd : noDefer ops.toList = true) (hm : P.follows .mixedOrders = true)
    (h : wpAny P .any ops Q ops.size (Array.replicate ops.size false) a { w with drawn := w.drawn + 1 }) : (Code.region id ops true).wpIn F n P Q a w := by
  refine wpIn_region_draw fun t => opsIn hF hQ hd _ _ _ ?_
  simp only [Region.schedule, hm, Bool.true_or, if_true]
  exact wpAny_sound ops.size t _ a _ h
end Go.Sl

/- Regions that draw their order: what reads, and calls that hand back a value and keep what is owned, are taken first; what makes memory or stores comes in any order. General over the program. -/
namespace Go.Sl
set_option linter.unusedSimpArgs false
set_option linter.unusedVariables false
open Go.RowKit

/-- What is owned at least: an extension. -/
theorem St.suf {S S' : Snap} {M M' : List Chunk} {w : World} (hS : S.Le S') (hM : Suf M M') (h : St S' M' w) : St S M w := by
  obtain ⟨N, rfl⟩ := hM.h
  clear hM
  induction N with
  | nil => exact St.weaken hS h
  | cons c N ih => exact ih h.drop
theorem Suf.refl (M : List Chunk) : Suf M M := ⟨[], rfl⟩
theorem Suf.trans {A B C : List Chunk} (h : Suf A B) (k : Suf B C) : Suf A C := by
  obtain ⟨N, rfl⟩ := h.h
  obtain ⟨N', rfl⟩ := k.h
  exact ⟨N' ++ N, by rw [List.append_assoc]⟩
theorem Suf.cons {A B : List Chunk} {c : Chunk} (h : Suf A B) : Suf A (c :: B) := by
  obtain ⟨N, rfl⟩ := h.h
  exact ⟨c :: N, rfl⟩
theorem Suf.slIn {M M' : List Chunk} {v : Value} {k z n : Nat} {T : TypeId} {c : List Value} (i : Suf M M') (h : SlIn M v k T z n c) : ∃ k', SlIn M' v k' T z n c := by
  obtain ⟨N, rfl⟩ := i.h
  exact ⟨N.length + k, ⟨by rw [List.getElem?_append_right (by omega), Nat.add_sub_cancel_left]; exact h.h⟩⟩

def isSt (o : Oper) : Bool := match o.op with | .store .. => true | .call c => (match c.callee with | .builtin .append => true | _ => false) | _ => false

section
variable {P : Program} {lo : List Oper} {Q : Exit → Act → World → Prop}

/-- Whatever order is picked from here on, in every world of the class, which may grow on the way. -/
def AnyV (P : Program) (lo : List Oper) (Q : Exit → Act → World → Prop) : Nat → Snap → List Chunk → List Bool → List Value → List Deferred → Prop
  | 0, S, M, bs, l, D => Region.ready .any lo.toArray bs.toArray = [] ∧ ∀ w, St S M w → Q .normal ⟨l.toArray, D⟩ w
  | f + 1, S, M, bs, l, D => (Region.ready .any lo.toArray bs.toArray = [] → ∀ w, St S M w → Q .normal ⟨l.toArray, D⟩ w) ∧
    ∀ j ∈ Region.ready .any lo.toArray bs.toArray, ∀ w, St S M w →
      wpOp P lo.toArray (NoPanic Q) j (fun a' w' => ∃ S' M' l', ((∃ o, lo[j]? = some o ∧ isSt o = true) ∨ (S.Le S' ∧ Suf M M')) ∧ a' = ⟨l'.toArray, D⟩ ∧ St S' M' w' ∧ AnyV P lo Q f S' M' (bs.set j true) l' D) ⟨l.toArray, D⟩ w

theorem set_arr (bs : List Bool) (j : Nat) : bs.toArray.setIfInBounds j true = (bs.set j true).toArray := by simp

theorem anyV_any : ∀ (f : Nat) (S : Snap) (M : List Chunk) (bs : List Bool) (l : List Value) (D : List Deferred) (w : World), AnyV P lo Q f S M bs l D → St S M w →
    wpAny P .any lo.toArray (NoPanic Q) f bs.toArray ⟨l.toArray, D⟩ w
  | 0, S, M, bs, l, D, w, h, hst => ⟨h.1, NoPanic.normal (h.2 w hst)⟩
  | f + 1, S, M, bs, l, D, w, h, hst => by
    refine ⟨fun e => NoPanic.normal (h.1 e w hst), fun j hj => wpOp_mono (fun a' w' h' => ?_) (h.2 j hj w hst)⟩
    obtain ⟨S', M', l', _, rfl, h1, h2⟩ := h'
    rw [set_arr]
    exact anyV_any f S' M' _ l' D w' h2 h1

theorem v_begin {S : Snap} {M : List Chunk} {l : List Value} {D : List Deferred} {w : World} {id : Nat} (hst : St S M w) (hm : P.follows .mixedOrders = true) (h : let ops := lo; AnyV P ops Q ops.length S M (List.replicate ops.length false) l D) :
    (Code.region id lo.toArray true).wp P Q ⟨l.toArray, D⟩ w := by
  refine wp_region_noPanic (wp_region_any hm ?_)
  have := anyV_any _ _ _ _ _ _ _ h hst.drew
  simpa using this

theorem wpOp_putX {i j : Nat} {oi oj : Oper} {v : Value} (hj : lo.toArray[j]? = some oj) (hap : oi.apart lo.toArray oj = true)
    (hsi : ∀ cs b, oi.op ≠ .select cs b) (hsj : ∀ cs b, oj.op ≠ .select cs b) {K : Act → World → Prop} {a : Act} {w : World} (h : wpOp P lo.toArray (NoPanic Q) j K (a.put oi.dst v) w) :
    wpOp P lo.toArray (NoPanic Q) j (fun a' w' => (execOp a'.eval oi = execOp a.eval oi ∧ Region.wanted oi (yielded lo.toArray a'.tmps) = Region.wanted oi (yielded lo.toArray a.tmps)) ∧ K (a'.put oi.dst v) w') a w := by
  obtain ⟨h1, h2, h3⟩ := Oper.apart_spec hap
  have keep : ∀ (a : Act) (u : Value), execOp (a.put oj.dst u).eval oi = execOp a.eval oi ∧ Region.wanted oi (yielded lo.toArray (a.put oj.dst u).tmps) = Region.wanted oi (yielded lo.toArray a.tmps) :=
    fun a u => ⟨execOp_put oi hsi a oj.dst u h3, wanted_put oi a oj.dst u h3⟩
  unfold wpOp at *
  simp only [hj] at *
  rw [wanted_put oj a oi.dst v h1] at h
  split
  · rename_i hw
    simp only [hw, if_true] at h
    rcases h with h | ⟨_, a0, w0, hf⟩
    case inr => exact .inr ⟨by rename_i hasks; unfold Oper.asks at *; rw [execOp_put oj hsj a oi.dst v h1] at hasks; exact hasks, a0, w0, hf⟩
    refine .inl ?_
    unfold Oper.wp at *
    rw [execOp_put oj hsj a oi.dst v h1] at h
    generalize (execOp a.eval oj).run P w = r at *
    cases r with
    | ok n w' =>
      cases n <;> simp only [Oper.upon] at h ⊢
      case value u => exact ⟨keep a u, by rw [← Act.put_comm a v u h2]; exact h⟩
      case skip => exact ⟨keep a _, by rw [← Act.put_comm a v undef h2]; exact h⟩
      case defer d =>
        have hk := keep { a with defers := d :: a.defers } undef
        refine ⟨hk, ?_⟩
        rw [← Act.put_comm _ v undef h2, ← Act.put_defers]
        exact h
      case enter f args =>
        refine Calls.mono h fun e w'' he => ?_
        cases e with
        | returned u => exact ⟨keep a u, by rw [← Act.put_comm a v u h2]; exact he⟩
        | panicked c => exact he
        | outgrown => exact he
      case row row args => exact Rows.mono h fun u w'' he => ⟨keep a u, by rw [← Act.put_comm a v u h2]; exact he⟩
    | halt x w' =>
      cases x <;> simp only [Oper.upon] at h ⊢
      case panic u => exact h
  · rename_i hw
    simp only [hw] at h
    exact ⟨keep a _, by rw [← Act.put_comm a v undef h2]; exact h⟩

/-- Operation j waits for operation i, directly or through others. -/
def waits (lo : List Oper) : Nat → Nat → Nat → Bool
  | 0, _, _ => false
  | f + 1, j, i => match lo[j]? with | some o => o.after.any (fun e => Region.binds .any e && (e.on == i || waits lo f e.on i)) | none => false
/-- What has come up has come up behind what it waits for. -/
def closedB (lo : List Oper) (bs : List Bool) : Bool :=
  (List.range lo.length).all fun k => !bs.getD k false || match lo[k]? with | some o => o.after.all (fun e => !Region.binds .any e || bs.getD e.on false) | none => true
/-- Every store that has not come up waits for operation i. -/
def storesWait (lo : List Oper) (bs : List Bool) (i : Nat) : Bool :=
  (List.range lo.length).all fun k => bs.getD k true || match lo[k]? with | some o => !isSt o || waits lo lo.length k i | none => true
def takeOk (lo : List Oper) (bs : List Bool) (i : Nat) : Bool :=
  Region.noSelect lo.toArray && Region.free .any lo.toArray bs.toArray i && (Region.ready .any lo.toArray bs.toArray).contains i && storesWait lo bs i && closedB lo bs

def Closed (lo : List Oper) (bs : List Bool) : Prop := ∀ k o, lo[k]? = some o → bs.toArray.getD k false = true → ∀ e ∈ o.after, Region.binds .any e = true → bs.toArray.getD e.on false = true
theorem closedB_spec {bs : List Bool} (h : closedB lo bs = true) : Closed lo bs := by
  intro k o ho hk e he hb
  have hlt : k < lo.length := (List.getElem?_eq_some_iff.1 ho).1
  have := List.all_eq_true.1 h k (List.mem_range.2 hlt)
  have hk' : bs.getD k false = true := by simpa using hk
  rw [hk', ho] at this
  simp only [Bool.not_true, Bool.false_or] at this
  obtain ⟨x, hx, rfl⟩ := Array.getElem_of_mem he
  have := Array.all_eq_true.1 this x hx
  rw [hb] at this
  simpa using this
theorem waits_listed {bs : List Bool} (hc : Closed lo bs) : ∀ (f j i : Nat) (o : Oper), lo[j]? = some o → (∀ e ∈ o.after, Region.binds .any e = true → bs.toArray.getD e.on false = true) → waits lo f j i = true → bs.toArray.getD i false = true
  | 0, _, _, _, _, _, h => by cases h
  | f + 1, j, i, o, ho, hall, h => by
    rw [waits, ho] at h
    simp only [Array.any_eq_true, Bool.and_eq_true, Bool.or_eq_true, beq_iff_eq] at h
    obtain ⟨x, hx, hb, h⟩ := h
    have hl := hall _ (Array.getElem_mem hx) hb
    rcases h with rfl | h
    · exact hl
    · cases ho' : lo[(o.after[x]).on]? with
      | none =>
        exfalso
        cases f with
        | zero => cases h
        | succ f => rw [waits, ho'] at h; cases h
      | some o' => exact waits_listed hc f _ i o' ho' (fun e he hb => hc _ o' ho' hl e he hb) h

/-- In every world of the class and of each that extends it the operation yields v and keeps the class. -/
def YX (P : Program) (S : Snap) (M : List Chunk) (l : List Value) (o : Oper) (v : Value) : Prop :=
  ∀ S' M' w, S.Le S' → Suf M M' → St S' M' w → Oper.quietUpon P (St S' M') w v ((execOp (evF l) o).run P w)
theorem YX.ext {S S' : Snap} {M M' : List Chunk} {l : List Value} {o : Oper} {v : Value} (h : YX P S M l o v) (hS : S.Le S') (hM : Suf M M') : YX P S' M' l o v :=
  fun S2 M2 w h1 h2 h3 => h S2 M2 w (hS.trans h1) (hM.trans h2) h3

theorem putD_put (l : List Value) (D : List Deferred) (d : Option Tmp) (v : Value) : (⟨l.toArray, D⟩ : Act).put d v = ⟨(putD l d v).toArray, D⟩ := by cases d <;> simp [Act.put, putD]

theorem wpOp_quiet {S : Snap} {M : List Chunk} {i : Nat} {o : Oper} {v : Value} {l : List Value} {D : List Deferred} {w : World} {K : Act → World → Prop} (hi : lo.toArray[i]? = some o)
    (hw : Region.wanted o (yielded lo.toArray l.toArray) = true) (hst : St S M w) (hy : Oper.quietUpon P (St S M) w v ((execOp (evF l) o).run P w)) (h : ∀ w', St S M w' → K ⟨(putD l o.dst v).toArray, D⟩ w') :
    wpOp P lo.toArray (NoPanic Q) i K ⟨l.toArray, D⟩ w := by
  unfold wpOp
  simp only [hi, hw, if_true]
  refine .inl ?_
  unfold Oper.wp
  rw [evF_eq]
  generalize (execOp (evF l) o).run P w = r at hy ⊢
  cases r with
  | ok n w' =>
    cases n <;> simp only [Oper.quietUpon] at hy <;> simp only [Oper.upon]
    case value u =>
      obtain ⟨e1, e2⟩ := hy
      rw [e1, e2, putD_put]
      exact h _ hst
    case skip =>
      obtain ⟨e1, e2⟩ := hy
      rw [e1, ← e2, putD_put]
      exact h _ hst
    case enter f args =>
      obtain ⟨e1, e2⟩ := hy
      rw [e1]
      refine Calls.mono e2 fun e w'' he => ?_
      obtain ⟨rfl, hC⟩ := he
      show K _ w''
      rw [putD_put]
      exact h _ hC
  | halt x w' => simp only [Oper.quietUpon] at hy

theorem v_take {i : Nat} {oi : Oper} {v : Value} {D : List Deferred} (hi : lo[i]? = some oi) (hsel : Region.noSelect lo.toArray = true) (hns : isSt oi = false) :
    ∀ (f : Nat) (S : Snap) (M : List Chunk) (bs : List Bool) (l : List Value),
      (∀ j oj, lo[j]? = some oj → j ≠ i → bs.toArray.getD j true = false → (∀ e ∈ oj.after, Region.binds .any e = true → e.on ≠ i) → oi.apart lo.toArray oj = true) →
      (∀ j oj, lo[j]? = some oj → bs.toArray.getD j true = false → isSt oj = true → ∃ g, waits lo g j i = true) → Closed lo bs →
      i ∈ Region.ready .any lo.toArray bs.toArray → (Region.wanted oi (yielded lo.toArray l.toArray) = true ∧ YX P S M l oi v ∨ Region.wanted oi (yielded lo.toArray l.toArray) = false ∧ v = undef) →
      AnyV P lo Q f S M (bs.set i true) (putD l oi.dst v) D → AnyV P lo Q (f + 1) S M bs l D := by
  have hi' : lo.toArray[i]? = some oi := by simpa using hi
  have first : ∀ {f : Nat} {S : Snap} {M : List Chunk} {bs : List Bool} {l : List Value} {w : World}, (Region.wanted oi (yielded lo.toArray l.toArray) = true ∧ YX P S M l oi v ∨ Region.wanted oi (yielded lo.toArray l.toArray) = false ∧ v = undef) → St S M w →
      AnyV P lo Q f S M (bs.set i true) (putD l oi.dst v) D → wpOp P lo.toArray (NoPanic Q) i (fun a' w' => ∃ S' M' l', ((∃ o, lo[i]? = some o ∧ isSt o = true) ∨ (S.Le S' ∧ Suf M M')) ∧ a' = ⟨l'.toArray, D⟩ ∧ St S' M' w' ∧ AnyV P lo Q f S' M' (bs.set i true) l' D) ⟨l.toArray, D⟩ w := by
    intro f S M bs l w hy hst H
    rcases hy with ⟨hw, hy⟩ | ⟨hw, rfl⟩
    · exact wpOp_quiet hi' hw hst (hy S M w (Snap.Le.refl S) (Suf.refl M) hst) fun w' hw' => ⟨S, M, _, .inr ⟨Snap.Le.refl S, Suf.refl M⟩, rfl, hw', H⟩
    · unfold wpOp
      simp only [hi', hw, Bool.false_eq_true, if_false]
      exact ⟨S, M, _, .inr ⟨Snap.Le.refl S, Suf.refl M⟩, putD_put l D oi.dst undef, hst, H⟩
  intro f
  induction f with
  | zero =>
    intro S M bs l hfree hsw hcl hr hy H
    refine ⟨fun e => (by rw [e] at hr; cases hr), fun j hj w hst => ?_⟩
    by_cases hji : j = i
    · subst hji; exact first hy hst H
    · have := ready_mono hj hji
      rw [set_arr, H.1] at this
      cases this
  | succ f ih =>
    intro S M bs l hfree hsw hcl hr hy H
    refine ⟨fun e => (by rw [e] at hr; cases hr), fun j hj w hst => ?_⟩
    by_cases hji : j = i
    · subst hji; exact first hy hst H
    · have hj2 : j ∈ Region.ready .any lo.toArray (bs.set i true).toArray := by rw [← set_arr]; exact ready_mono hj hji
      have h1 := H.2 j hj2 w hst
      obtain ⟨hjun, oj, hoj, hall⟩ := mem_ready.1 hj
      have hnot : ∀ e ∈ oj.after, Region.binds .any e = true → e.on ≠ i := fun e he hb heq => by
        have h1 := hall e he hb
        have h0 := (mem_ready.1 hr).1
        rw [heq, getD_both h0] at h1
        cases h1
      have hoj' : lo[j]? = some oj := by simpa using hoj
      have hnst : isSt oj = false := by
        cases e : isSt oj with
        | false => rfl
        | true =>
          obtain ⟨g, hg⟩ := hsw j oj hoj' hjun e
          have h1 := waits_listed hcl g j i oj hoj' hall hg
          have h0 := (mem_ready.1 hr).1
          rw [getD_both h0] at h1
          cases h1
      rw [← putD_put] at h1
      have h2 := wpOp_putX (i := i) hoj (hfree j oj hoj' hji hjun hnot) (fun cs b => Region.noSelect_spec hsel i oi cs b hi') (fun cs b => Region.noSelect_spec hsel j oj cs b hoj) h1
      refine wpOp_mono (fun a' w' h3 => ?_) h2
      obtain ⟨⟨hc1, hc2⟩, S', M', l'', hex, hl, hst', hA⟩ := h3
      have hex' : S.Le S' ∧ Suf M M' := by
        rcases hex with ⟨o, ho, hs⟩ | hex
        · rw [hoj'] at ho
          cases ho
          rw [hnst] at hs
          cases hs
        · exact hex
      obtain ⟨t, d⟩ := a'
      have hd : d = D := by
        have := congrArg Act.defers hl
        cases ho : oi.dst <;> simpa [Act.put, ho] using this
      subst hd
      obtain ⟨l', rfl⟩ : ∃ l' : List Value, t = l'.toArray := ⟨t.toList, by simp⟩
      rw [putD_put] at hl
      obtain rfl : putD l' oi.dst v = l'' := by
        have := congrArg (fun a => a.tmps.toList) hl
        simpa using this
      refine ⟨S', M', l', .inr hex', rfl, hst', ih S' M' (bs.set j true) l' ?_ ?_ ?_ ?_ ?_ ?_⟩
      · intro k ok hk hki hun hno
        refine hfree k ok hk hki ?_ hno
        rw [← set_arr] at hun
        by_cases hjk : j = k
        · subst hjk; exact hjun
        · rwa [getD_set_ne true hjk] at hun
      · intro k ok hk hun hs
        refine hsw k ok hk ?_ hs
        rw [← set_arr] at hun
        by_cases hjk : j = k
        · subst hjk; exact hjun
        · rwa [getD_set_ne true hjk] at hun
      · intro k ok hk hl e he hb
        rw [← set_arr] at hl ⊢
        by_cases hjk : j = k
        · subst hjk
          obtain rfl : oj = ok := by rw [hoj'] at hk; cases hk; rfl
          exact getD_set_true (hall e he hb)
        · rw [getD_set_ne false hjk] at hl
          exact getD_set_true (hcl k ok hk hl e he hb)
      · rw [← set_arr]; exact ready_mono hr (Ne.symm hji)
      · rw [evF_eq, evF_eq] at hc1
        rcases hy with ⟨hw, hy⟩ | ⟨hw, hv⟩
        · refine .inl ⟨hc2.trans hw, ?_⟩
          intro S2 M2 w2 hS2 hM2 hst2
          rw [hc1]
          exact hy.ext hex'.1 hex'.2 S2 M2 w2 hS2 hM2 hst2
        · exact .inr ⟨hc2.trans hw, hv⟩
      · have e := Array.setIfInBounds_comm (xs := bs.toArray) (i := i) (j := j) true true (Ne.symm hji)
        have e' : (bs.set i true).set j true = (bs.set j true).set i true := by
          have := congrArg Array.toList e
          simpa using this
        rw [← e']
        exact hA

variable {S : Snap} {M : List Chunk} {f : Nat} {bs : List Bool} {l : List Value} {D : List Deferred} {o : Oper} {v : Value}

theorem takeOk_use {k : Nat} (ho : lo[k]? = some o) (hok : takeOk lo bs k = true) (hns : isSt o = false) (hy : Region.wanted o (yielded lo.toArray l.toArray) = true ∧ YX P S M l o v ∨ Region.wanted o (yielded lo.toArray l.toArray) = false ∧ v = undef)
    (h : AnyV P lo Q f S M (bs.set k true) (putD l o.dst v) D) : AnyV P lo Q (f + 1) S M bs l D := by
  simp only [takeOk, Bool.and_eq_true] at hok
  obtain ⟨⟨⟨⟨h1, h2⟩, h3⟩, h4⟩, h5⟩ := hok
  have ho' : lo.toArray[k]? = some o := by simpa using ho
  refine v_take ho h1 hns f S M bs l (fun j oj hj => Region.free_spec ho' h2 j oj (by simpa using hj)) (fun j oj hj hun hs => ?_) (closedB_spec h5) (by simpa using h3) hy h
  have hlt : j < lo.length := (List.getElem?_eq_some_iff.1 hj).1
  have := List.all_eq_true.1 h4 j (List.mem_range.2 hlt)
  have hun' : bs.getD j true = false := by simpa using hun
  rw [hun', hj] at this
  simp only [Bool.false_or, hs, Bool.not_true] at this
  exact ⟨_, this⟩

theorem Qt.suf {op : Op} {S' : Snap} {M' : List Chunk} (h : Qt P l op S M v) (hS : S.Le S') (hM : Suf M M') : Qt P l op S' M' v := fun d ty pos af w hw => h d ty pos af w (hw.suf hS hM)
theorem YX.qt (hq : Qt P l o.op S M v) (hg : ∀ w, (execOp (evF l) o).run P w = (execOp (evF l) ⟨o.dst, o.op, o.type, o.pos, o.after, none⟩).run P w := by intro; rfl) : YX P S M l o v := fun S' M' w hS hM hst => by
  rw [hg, hq.suf hS hM o.dst o.type o.pos o.after w hst]
  exact ⟨rfl, rfl⟩

/-- Take an operation that reads. -/
theorem t_qt (k : Nat) (ho : lo[k]? = some o) (hok : takeOk lo bs k = true) (hns : isSt o = false) (hw : Region.wanted o (yielded lo.toArray l.toArray) = true) (hq : Qt P l o.op S M v)
    (h : AnyV P lo Q f S M (bs.set k true) (putD l o.dst v) D) : AnyV P lo Q (f + 1) S M bs l D := takeOk_use ho hok hns (.inl ⟨hw, YX.qt hq⟩) h
theorem v_assume (h : ∀ w, St S M w → AnyV P lo Q (f + 1) S M bs l D) : AnyV P lo Q (f + 1) S M bs l D :=
  ⟨fun e w hst => (h w hst).1 e w hst, fun j hj w hst => (h w hst).2 j hj w hst⟩
theorem t_ex (k : Nat) {F : Value → Prop} (ho : lo[k]? = some o) (hok : takeOk lo bs k = true) (hns : isSt o = false) (hw : Region.wanted o (yielded lo.toArray l.toArray) = true) (hq : ∀ w, St S M w → ∃ v, F v ∧ Qt P l o.op S M v)
    (h : ∀ v, F v → AnyV P lo Q f S M (bs.set k true) (putD l o.dst v) D) : AnyV P lo Q (f + 1) S M bs l D := v_assume fun w hst => let ⟨v, hv, q⟩ := hq w hst; t_qt k ho hok hns hw q (h v hv)
theorem t_no (k : Nat) (ho : lo[k]? = some o) (hok : takeOk lo bs k = true) (hns : isSt o = false) (hw : Region.wanted o (yielded lo.toArray l.toArray) = false)
    (h : AnyV P lo Q f S M (bs.set k true) (putD l o.dst undef) D) : AnyV P lo Q (f + 1) S M bs l D := takeOk_use ho hok hns (.inr ⟨hw, rfl⟩) h

/-- Take a call that hands back v and keeps what is owned. -/
theorem t_call (k : Nat) {fn : FuncId} {xs : List Operand} {ats : Array TypeId} {args : List Value} {d : Option Tmp} {ty : TypeId} {pos : String} {af : Array Edge} {g : Option (Nat × Bool)}
    (ho : lo[k]? = some ⟨d, .call { callee := .value (.func fn), args := xs.toArray, argTypes := ats }, ty, pos, af, g⟩) (hok : takeOk lo bs k = true) (hw : Region.wanted ⟨d, .call { callee := .value (.func fn), args := xs.toArray, argTypes := ats }, ty, pos, af, g⟩ (yielded lo.toArray l.toArray) = true)
    (c : ∀ S' M' w, S.Le S' → Suf M M' → St S' M' w → Rets P fn args w fun v' w' => v' = v ∧ St S' M' w') (hb : Body P fn) (ha : xs.map (evF l) = args)
    (h : AnyV P lo Q f S M (bs.set k true) (putD l d v) D) : AnyV P lo Q (f + 1) S M bs l D := by
  refine takeOk_use ho hok rfl (.inl ⟨hw, fun S' M' w hS hM hst => ?_⟩) h
  subst ha
  have hr : (execOp (evF l) ⟨d, .call { callee := .value (.func fn), args := xs.toArray, argTypes := ats }, ty, pos, af, g⟩).run P w = .ok (.enter fn (xs.map (evF l)).toArray) w := by
    have := hb.enter (w := w) (xs.map (evF l)).toArray
    simp only [execOp, resolve, Deferred.ofValue, evF, Sem.run_bind, Sem.run_pure, Result.andThen_ok, invoke]
    simpa using this
  rw [hr]
  exact ⟨rfl, Calls.mono (c S' M' w hS hM hst) fun e w' ⟨v', he, hv, hs⟩ => ⟨by rw [he, hv], hs⟩⟩

/-- Take a call of a function value. -/
theorem t_callv (k : Nat) {fn : FuncId} {x : Operand} {xs : List Operand} {ats : Array TypeId} {args args' : List Value} {fi ca : List Value} {d : Option Tmp} {ty : TypeId} {pos : String} {af : Array Edge} {g : Option (Nat × Bool)}
    (ho : lo[k]? = some ⟨d, .call { callee := .value x, args := xs.toArray, argTypes := ats }, ty, pos, af, g⟩) (hok : takeOk lo bs k = true) (hw : Region.wanted ⟨d, .call { callee := .value x, args := xs.toArray, argTypes := ats }, ty, pos, af, g⟩ (yielded lo.toArray l.toArray) = true)
    (c : ∀ S' M' w, S.Le S' → Suf M M' → St S' M' w → Rets P fn args' w fun v' w' => v' = v ∧ St S' M' w') (hx : evF l x = .func (.func fn) fi.toArray ca.toArray) (hb : Body P fn) (ha : xs.map (evF l) = args) (hargs : fi ++ args ++ ca = args')
    (h : AnyV P lo Q f S M (bs.set k true) (putD l d v) D) : AnyV P lo Q (f + 1) S M bs l D := by
  refine takeOk_use ho hok rfl (.inl ⟨hw, fun S' M' w hS hM hst => ?_⟩) h
  subst ha; subst hargs
  have hr : (execOp (evF l) ⟨d, .call { callee := .value x, args := xs.toArray, argTypes := ats }, ty, pos, af, g⟩).run P w = .ok (.enter fn (fi ++ xs.map (evF l) ++ ca).toArray) w := by
    have := hb.enter (w := w) (fi ++ xs.map (evF l) ++ ca).toArray
    simp only [execOp, resolve, hx, Deferred.ofValue, Sem.run_bind, Sem.run_pure, Result.andThen_ok, invoke]
    simpa using this
  rw [hr]
  exact ⟨rfl, Calls.mono (c S' M' w hS hM hst) fun e w' ⟨v', he, hv, hs⟩ => ⟨by rw [he, hv], hs⟩⟩

/-- What stands behind an operation that makes memory. -/
def RestV (P : Program) (lo : List Oper) (Q : Exit → Act → World → Prop) (S : Snap) (M : List Chunk) (f : Nat) (bs : List Bool) (D : List Deferred) (K : Act → World → Prop) : Prop :=
  ∀ S' M' l' w, S.Le S' → Suf M M' → St S' M' w → AnyV P lo Q f S' M' bs l' D → K ⟨l'.toArray, D⟩ w
/-- What stands behind a store. -/
def LastV (P : Program) (lo : List Oper) (Q : Exit → Act → World → Prop) (f : Nat) (bs : List Bool) (D : List Deferred) (K : Act → World → Prop) : Prop :=
  ∀ S' M' l' w, St S' M' w → AnyV P lo Q f S' M' bs l' D → K ⟨l'.toArray, D⟩ w

def Step1 (P : Program) (lo : List Oper) (Q : Exit → Act → World → Prop) (S : Snap) (M : List Chunk) (f : Nat) (bs : List Bool) (l : List Value) (D : List Deferred) (k : Nat) (o : Oper) : Prop :=
  ∀ w, St S M w → ∀ K, (if isSt o then LastV P lo Q f (bs.set k true) D K else RestV P lo Q S M f (bs.set k true) D K) → wpList P lo.toArray (Exit.then K (NoPanic Q)) [o] ⟨l.toArray, D⟩ w
theorem step1_use {k : Nat} (ho : lo[k]? = some o) (h : Step1 P lo Q S M f bs l D k o) (w : World) (hst : St S M w) :
    wpOp P lo.toArray (NoPanic Q) k (fun a' w' => ∃ S' M' l', ((∃ o, lo[k]? = some o ∧ isSt o = true) ∨ (S.Le S' ∧ Suf M M')) ∧ a' = ⟨l'.toArray, D⟩ ∧ St S' M' w' ∧ AnyV P lo Q f S' M' (bs.set k true) l' D) ⟨l.toArray, D⟩ w := by
  refine wpOp_of_list (by simpa using ho) (h w hst _ ?_)
  cases e : isSt o with
  | true => exact fun S' M' l' w' h1 h2 => ⟨S', M', l', .inl ⟨o, ho, e⟩, rfl, h1, h2⟩
  | false => exact fun S' M' l' w' h0 h1 h2 h3 => ⟨S', M', l', .inr ⟨h0, h1⟩, rfl, h2, h3⟩
theorem v_all (rs : List Nat) (hr : Region.ready .any lo.toArray bs.toArray = rs) (hne : rs ≠ []) (h : ∀ k ∈ rs, ∃ o, lo[k]? = some o ∧ Step1 P lo Q S M f bs l D k o) : AnyV P lo Q (f + 1) S M bs l D :=
  ⟨fun e => absurd (hr ▸ e) hne, fun j hj w hst => let ⟨_, ho, h1⟩ := h j (hr ▸ hj); step1_use ho h1 w hst⟩
theorem v_one (k : Nat) (ho : lo[k]? = some o) (hr : Region.ready .any lo.toArray bs.toArray = [k]) (h : Step1 P lo Q S M f bs l D k o) : AnyV P lo Q (f + 1) S M bs l D :=
  v_all [k] hr (by simp) fun i hi => by obtain rfl := List.mem_singleton.1 hi; exact ⟨o, ho, h⟩
theorem v_two (j k : Nat) {o' : Oper} (ho : lo[j]? = some o) (ho' : lo[k]? = some o') (hr : Region.ready .any lo.toArray bs.toArray = [j, k]) (h : Step1 P lo Q S M f bs l D j o) (h' : Step1 P lo Q S M f bs l D k o') : AnyV P lo Q (f + 1) S M bs l D :=
  v_all [j, k] hr (by simp) fun i hi => by
    rcases List.mem_cons.1 hi with rfl | hi
    · exact ⟨o, ho, h⟩
    · obtain rfl := List.mem_singleton.1 hi
      exact ⟨o', ho', h'⟩
theorem v_three (i j k : Nat) {o' o'' : Oper} (ho : lo[i]? = some o) (ho' : lo[j]? = some o') (ho'' : lo[k]? = some o'') (hr : Region.ready .any lo.toArray bs.toArray = [i, j, k]) (h : Step1 P lo Q S M f bs l D i o) (h' : Step1 P lo Q S M f bs l D j o')
    (h'' : Step1 P lo Q S M f bs l D k o'') : AnyV P lo Q (f + 1) S M bs l D :=
  v_all [i, j, k] hr (by simp) fun x hx => by
    rcases List.mem_cons.1 hx with rfl | hx
    · exact ⟨o, ho, h⟩
    · rcases List.mem_cons.1 hx with rfl | hx
      · exact ⟨o', ho', h'⟩
      · obtain rfl := List.mem_singleton.1 hx
        exact ⟨o'', ho'', h''⟩
theorem v_done (hr : Region.ready .any lo.toArray bs.toArray = []) (h : ∀ w, St S M w → Q .normal ⟨l.toArray, D⟩ w) : AnyV P lo Q f S M bs l D := by
  cases f with
  | zero => exact ⟨hr, h⟩
  | succ f => exact ⟨fun _ => h, by rw [hr]; simp⟩
/-- Behind an operation: the class grows. -/
theorem v_next {ops : Array Oper} {K : Act → World → Prop} {Q' : Exit → Act → World → Prop} {S' : Snap} {M' : List Chunk} {w : World} (hK : RestV P lo Q S M f bs D K) (hst : St S' M' w) (hS : S.Le S') (hM : Suf M M')
    (h : AnyV P lo Q f S' M' bs l D) : wpList P ops (Exit.then K Q') [] ⟨l.toArray, D⟩ w := hK S' M' l w hS hM hst h
theorem v_last {ops : Array Oper} {K : Act → World → Prop} {Q' : Exit → Act → World → Prop} {S' : Snap} {M' : List Chunk} {w : World} (hK : LastV P lo Q f bs D K) (hst : St S' M' w)
    (h : AnyV P lo Q f S' M' bs l D) : wpList P ops (Exit.then K Q') [] ⟨l.toArray, D⟩ w := hK S' M' l w hst h
end
end Go.Sl

/- A range over a function: the loop's record is owned like memory; an iterator's contract; the statement. General over the program. -/
namespace Go.Sl
set_option linter.unusedSimpArgs false
set_option linter.unusedVariables false
open Go.RowKit
variable {P : Program} {S : Snap} {M : List Chunk} {w : World}

theorem St.allocObj (h : St S M w) (o : Obj) : St S (.obj w.heap.size o :: M) (w.alloc o) := by
  have old : ∀ b, b < w.heap.size → (w.alloc o).heap[b]? = w.heap[b]? := fun b hb => Below.heap_alloc _ _ _ hb
  refine ⟨h.os, h.tape, h.output, fun b o' e => ?_, fun d hd => ?_, fun d hd b hb => ?_, List.pairwise_cons.2 ⟨fun d hd b hb hd' => ?_, h.apart⟩⟩
  · have := h.has b o' e
    rw [old b (Array.getElem?_eq_some_iff.1 this).1]; exact this
  · rcases List.mem_cons.1 hd with rfl | hd
    · exact World.alloc_heap_new w o
    · exact Chunk.at_of_block (h.at_ d hd) fun b hb => old b (Chunk.lt (h.at_ d hd) b hb)
  · rcases List.mem_cons.1 hd with rfl | hd
    · obtain rfl : w.heap.size = b := by simpa [Chunk.own] using hb
      cases e : S.blk w.heap.size with
      | none => rfl
      | some o => have := (Array.getElem?_eq_some_iff.1 (h.has _ _ e)).1; omega
    · exact h.out d hd b hb
  · obtain rfl : w.heap.size = b := by simpa [Chunk.own] using hb
    have := Chunk.lt (h.at_ d hd) _ hd'; omega

theorem St.putObj {b : Nat} {o o' : Obj} (h : St S (.obj b o :: M) w) : St S (.obj b o' :: M) (w.putObj b o') := by
  have hb : w.heap[b]? = some o := h.at_ _ (.head _)
  refine h.set rfl rfl rfl (World.putObj_heap_same (Array.getElem?_eq_some_iff.1 hb).1) (fun k hk => .inl hk) fun k _ hk => World.putObj_heap_other ?_
  intro e
  subst e
  exact hk rfl

theorem roundIn_wide {n m l : Nat} {f : FuncId} {tmps : Array Value} {assign body : Code} {R : Ending → World → Prop} (h : RoundIn Fence.wide n P l f tmps assign body w R) : RoundIn Fence.wide m P l f tmps assign body w R :=
  ⟨h.1, fun c cs _ => h.2 c cs (room_wide _)⟩

/-- What an iterator does: it calls yield N times, with values that are 'ok'; it keeps what it does not own; then it returns. -/
def IterC (P : Program) (S : Snap) (gf : FuncId) (lb : List Value) (N : Nat) (ok : Nat → List Value → Prop) : Prop :=
  ∀ (l : Nat) (MM : Nat → List Chunk), (∀ k, k < N → ∀ vs, ok k vs → ∀ W, St S (MM k) W → YieldAt Fence.wide 0 P l vs.toArray W fun e W' => e = .returned (.bool true) ∧ St S (MM (k + 1)) W') →
    ∀ W, St S (MM 0) W → Calls P gf (.func (.yield l) #[] #[] :: lb).toArray W fun e W' => (∃ v, e = .returned v) ∧ St S (MM N) W'

theorem perm2 (a b : Chunk) (L C : List Chunk) : (a :: b :: (L ++ C)).Perm (L ++ (a :: b :: C)) :=
  (List.Perm.cons a List.perm_middle.symm).trans List.perm_middle.symm
theorem perm1 (a : Chunk) (L C : List Chunk) : (a :: (L ++ C)).Perm (L ++ (a :: C)) := List.perm_middle.symm

/-- 'for x := range g { .. }', the body never leaving the loop. -/
theorem s_range {g : Operand} {ps : Array Tmp} {assign body : Code} {Q : Exit → Act → World → Prop} {l : List Value} {D : List Deferred} {gf : FuncId} {lb : List Value} {N : Nat} {ok : Nat → List Value → Prop} (I : Nat → List Chunk) (M0 : List Chunk)
    (hst : St S (I 0 ++ M0) w) (hg : evF l g = .func (.func gf) #[] lb.toArray) (hb : Body P gf) (hit : IterC P S gf lb N ok) (hps : ∀ k vs, ok k vs → vs.length = ps.size) (a1 : List Value → Act)
    (hassign : ∀ (r : Nat) (vs : List Value) (W : World) (K : Act → World → Prop), vs.length = ps.size → K (a1 vs) W → assign.wpIn (Fence.wide.inRound r) 0 P (Exit.then K (fun _ _ _ => False)) { tmps := (ps.zip vs.toArray).foldl (fun t (p, v) => t.setIfInBounds p v) l.toArray, defers := [] } W)
    (hbody : ∀ (r k : Nat) (vs : List Value) (C : List Chunk) (W : World), k < N → ok k vs → St S (I k ++ C) W → body.wpIn (Fence.wide.inRound r) 0 P (fun e _ W' => e = .normal ∧ St S (I (k + 1) ++ C) W') (a1 vs) W)
    (hdone : ∀ (d : Nat) (W : World), St S (.obj d (.deferred (some [])) :: (I N ++ M0)) W → Q .normal ⟨l.toArray, { target := .collected d, args := #[] } :: D⟩ W) :
    (Code.rangeFunc g ps assign body).wp P Q ⟨l.toArray, D⟩ w := by
  refine (wpIn_wide (n := 0)).1 (wpIn_rangeFunc ?_)
  intro fn hfn
  obtain ⟨rec, hrec⟩ : ∃ rec : LoopState → Option Code → Loop, rec = fun st pe => { state := st, pending := pe, fn, tmps := l.toArray, params := ps, assign, body, defers := w.heap.size } := ⟨_, rfl⟩
  obtain ⟨W1, hW1⟩ : ∃ W1, (w.alloc (.deferred (some []))).alloc (.loop (rec .ready none)) = W1 := ⟨_, rfl⟩
  have hst1 : St S (.obj (w.heap.size + 1) (.loop (rec .ready none)) :: .obj w.heap.size (.deferred (some [])) :: (I 0 ++ M0)) W1 := by
    rw [← hW1]
    have := (hst.allocObj (.deferred (some []))).allocObj (.loop (rec .ready none))
    rwa [World.size_alloc] at this
  refine ⟨w.heap.size + 1, [{ target := .collected w.heap.size, args := #[] }], W1, { target := .fn (.func gf) lb.toArray, args := #[.func (.yield (w.heap.size + 1)) #[] #[]] }, W1, gf,
    (.func (.yield (w.heap.size + 1)) #[] #[] :: lb).toArray, W1, ?_, ?_, fun _ _ => trivial, ?_, (fun h => by cases h), ?_⟩
  · rw [← hW1, hrec]; exact run_enterLoop_outer _ _ _ _ _
  · simp only [resolve, evF_eq, hg]
    simp [go_sem, evF]
  · have := hb.enter (w := W1) (.func (.yield (w.heap.size + 1)) #[] #[] :: lb).toArray
    simp only [invoke]
    simpa using this
  · refine callsIn_wide.2 (Calls.mono (hit (w.heap.size + 1) (fun k => .obj (w.heap.size + 1) (.loop (rec .ready none)) :: .obj w.heap.size (.deferred (some [])) :: (I k ++ M0)) ?_ W1 hst1) ?_)
    · intro k hk vs hvs W hW
      have hl : W.heap[w.heap.size + 1]? = some (.loop (rec .ready none)) := hW.at_ _ (.head _)
      have hlen := hps k vs hvs
      have hy := run_yield (P := P) (args := vs.toArray) hl (by rw [hrec]; simpa using hlen)
      rw [hrec] at hy
      refine ⟨fn, _, assign, body, hy, roundIn_wide (n := 0) (roundIn_of_wpIn hfn (hassign _ vs W _ hlen ⟨_, run_beginRound hl (by rw [hrec]), ?_⟩))⟩
      have hst2 := (hW.putObj (o' := .loop { rec .ready none with state := .busy })).perm (perm2 _ _ _ _)
      refine wpIn_mono (hbody _ k vs _ _ hk hvs hst2) ?_
      rintro e a3 W3 ⟨rfl, hst3⟩
      have hst4 := hst3.perm (perm2 _ _ _ _).symm
      have hl3 : W3.heap[w.heap.size + 1]? = some (.loop { rec .ready none with state := .busy }) := hst4.at_ _ (.head _)
      have hr := run_endRound (P := P) none hl3
      refine ⟨_, _, hr, rfl, ?_⟩
      have := hst4.putObj (o' := .loop (rec .ready none))
      rw [hrec] at this ⊢
      exact this
    · rintro e W2 ⟨⟨v, rfl⟩, hst2⟩
      have hl : W2.heap[w.heap.size + 1]? = some (.loop (rec .ready none)) := hst2.at_ _ (.head _)
      have hr := run_endLoop (P := P) hl (by rw [hrec]; simp)
      rw [hrec] at hr
      refine ⟨none, _, hr, hdone _ _ ?_⟩
      exact (hst2.putObj (o' := .loop _)).drop

/-- A function whose body holds a range over a function. -/
theorem rets_marks {f : FuncId} {fn : Func} {c : Code} {args : List Value} {post : Value → World → Prop} (hf : P.funcs[f]? = some fn) (hb : fn.body = some c)
    (h : c.wp P (bodyPostM Fence.wide 0 P fn fun e w' => ∃ v, e = .returned v ∧ post v w') { tmps := args.toArray ++ Array.replicate (fn.ntmps - args.toArray.size) undef, defers := [] } w) : Rets P f args w post :=
  (callsIn_wide (n := 0)).1 (callsIn_of_wp_marks hf hb trivial ((wpIn_wide (n := 0)).2 h) rfl)

/-- The function's return, one mark to go. -/
theorem ret_mark1 {fn : Func} {R : Ending → World → Prop} {l : List Value} {d : Nat} {v : Value} {r : ResultVar} (hst : St S (.obj d (.deferred (some [])) :: M) w) (hr : fn.results = #[r])
    (hv : ∀ w', St S M w' → RVar P l w' r v) (hR : ∀ w', St S M w' → R (.returned v) w') : bodyPostM Fence.wide 0 P fn R .ret ⟨l.toArray, [{ target := .collected d, args := #[] }]⟩ w := by
  have hk : w.heap[d]? = some (.deferred (some [])) := hst.at_ _ (.head _)
  have hst' := (hst.putObj (o' := .deferred none)).drop
  refine ⟨by simp, .inl ⟨d, _, rfl, run_takeDeferred hk, ?_⟩⟩
  refine ⟨v, ?_, hR _ hst'⟩
  have hn : ∀ t, nth l t = l[t]?.getD undef := fun t => by simp [nth_eq]
  have h := hv _ hst'
  cases r <;> simp only [RVar, hn] at h <;> (try obtain ⟨ad, h, k⟩ := h) <;> simp_all [results, asAddr]

/-- 'for x := range g { .. }', one variable of the frame. -/
theorem s_range1 {g : Operand} {p d id : Nat} {ty : TypeId} {pos : String} {af : Array Edge} {body : Code} {Q : Exit → Act → World → Prop} {l : List Value} {D : List Deferred} {gf : FuncId} {lb : List Value} {N : Nat} {ok : Nat → List Value → Prop} (I : Nat → List Chunk) (M0 : List Chunk)
    (hst : St S (I 0 ++ M0) w) (hg : evF l g = .func (.func gf) #[] lb.toArray) (hb : Body P gf) (hit : IterC P S gf lb N ok) (hps : ∀ k vs, ok k vs → vs.length = 1) (hp : p < l.length)
    (hbody : ∀ (r k : Nat) (v : Value) (C : List Chunk) (W : World), k < N → ok k [v] → St S (I k ++ C) W → body.wpIn (Fence.wide.inRound r) 0 P (fun e _ W' => e = .normal ∧ St S (I (k + 1) ++ C) W') ⟨((l.set p v).set d v).toArray, []⟩ W)
    (hdone : ∀ (d : Nat) (W : World), St S (.obj d (.deferred (some [])) :: (I N ++ M0)) W → Q .normal ⟨l.toArray, { target := .collected d, args := #[] } :: D⟩ W) :
    (Code.rangeFunc g #[p] (Code.region id #[⟨some d, .assign (.tmp p), ty, pos, af, none⟩] false) body).wp P Q ⟨l.toArray, D⟩ w := by
  refine s_range I M0 hst hg hb hit (fun k vs h => hps k vs h) (fun vs => ⟨((l.set p (vs.headD undef)).set d (vs.headD undef)).toArray, []⟩) ?_ ?_ hdone
  · intro r vs W K hl hK
    obtain ⟨v, rfl⟩ := List.length_eq_one_iff.1 hl
    refine regionIn (l := [⟨some d, .assign (.tmp p), ty, pos, af, none⟩]) (.inr ⟨r, rfl⟩) ?_ rfl ?_
    · rintro ⟨a, w, h⟩
      exact h
    · have e : ((#[p].zip [v].toArray).foldl (fun t (x : Tmp × Value) => t.setIfInBounds x.1 x.2) l.toArray) = (l.set p v).toArray := by simp
      show wpList P _ _ _ { tmps := (#[p].zip [v].toArray).foldl (fun t (x : Tmp × Value) => t.setIfInBounds x.1 x.2) l.toArray, defers := [] } W
      rw [e]
      refine step_value (v := v) (w' := W) ?_ hK
      have e2 : nth (l.set p v) p = v := by rw [nth_eq]; simp [hp]
      simp [execOp, evF, e2]
  · intro r k vs C W hk hvs hst
    obtain ⟨v, rfl⟩ := List.length_eq_one_iff.1 (hps k vs hvs)
    exact hbody r k v C W hk hvs hst

section
variable {F : Fence} {n : Nat} {ops : Array Oper} {Q : Exit → Act → World → Prop} {l : List Value} {D : List Deferred}
theorem in_take (k : Nat) {lo : List Oper} {a : Act} (hF : Wd F) (hQ : ¬ LetsOut Q) (hd : noDefer (lo.take k) = true) (h : wpList P ops (Exit.then (wpListIn F n P ops Q (lo.drop k)) Q) (lo.take k) a w) : wpListIn F n P ops Q lo a w := by
  have := listIn (n := n) hF hQ (rest := lo.drop k) (fun a w h => h) (lo.take k) hd a w h
  rwa [List.take_append_drop] at this
theorem in_plain {lo : List Oper} {a : Act} (hF : Wd F) (hQ : ¬ LetsOut Q) (hd : noDefer lo = true) (h : wpList P ops Q lo a w) : wpListIn F n P ops Q lo a w := by
  have := listIn (n := n) (rest := []) (K := Q .normal) (ops := ops) hF hQ (fun a w h => h) lo hd a w (by
    have e : Exit.then (Q .normal) Q = Q := by funext e a w; cases e <;> rfl
    rw [e]; exact h)
  rwa [List.append_nil] at this
/-- A call of yield. -/
theorem in_yield {rest : List Oper} {d : Tmp} {x : Operand} {xs : List Operand} {ats : Array TypeId} {ty : TypeId} {pos : String} {af : Array Edge} {r : Nat} {vs : List Value} {v : Value} {C : World → Prop}
    (hx : evF l x = .func (.yield r) #[] #[]) (ha : xs.map (evF l) = vs) (hy : YieldAt Fence.wide 0 P r vs.toArray w fun e w' => e = .returned v ∧ C w')
    (h : ∀ w', C w' → wpListIn Fence.wide 0 P ops Q rest ⟨(l.set d v).toArray, D⟩ w') :
    wpListIn Fence.wide 0 P ops Q (⟨some d, .call { callee := .value x, args := xs.toArray, argTypes := ats }, ty, pos, af, none⟩ :: rest) ⟨l.toArray, D⟩ w := by
  obtain ⟨fn, tmps, assign, body, hr, hR⟩ := hy
  subst ha
  refine wpListIn_plain rfl fun K hK => ⟨fun _ _ => trivial, ?_⟩
  have hrun : (execOp (evF l) ⟨some d, .call { callee := .value x, args := xs.toArray, argTypes := ats }, ty, pos, af, none⟩).run P w = .ok (.round r fn tmps assign body) w := by
    have e : Array.map (evF l) xs.toArray = (xs.map (evF l)).toArray := by simp
    simp only [execOp, resolve, hx, Deferred.ofValue, Sem.run_bind, Sem.run_pure, Result.andThen_ok, invoke, e, Array.append_empty, Array.empty_append]
    exact hr
  rw [Oper.semAt_eq _ _ _ (by intro c; simp), evF_eq, hrun]
  refine ⟨(fun h => by cases h), roundIn_wide (n := 0) (hR.mono ?_)⟩
  rintro e w' ⟨rfl, hC⟩
  refine hK _ _ ?_
  have := h w' hC
  simpa [Act.put] using this
end
end Go.Sl

/- Parts of arrays that are data. General over the program. -/
namespace Go.Sl
set_option linter.unusedSimpArgs false
set_option linter.unusedVariables false
open Go.RowKit
/-- A part of an array that is data. -/
theorem qt_arrSliceP {P : Program} {S : Snap} {M : List Chunk} {l : List Value} {α : Type} [Rep α] {T E : TypeId} {n : Nat} {x : Operand} {lo hi : Option Operand} {agg : Bool} {zero : List Value} {bb : Nat} {p : Value} {y : Arr α n} {a b : Nat} (hx : evF l x = p) (hp : Pt S p y) (hT : ArrT P T n E) (hE : Ty P E agg (Rep.z α) zero bb)
    (hl : Bd (lo.map (evF l)) 0 a) (hh : Bd (hi.map (evF l)) n b) (h1 : a ≤ b) (h2 : b ≤ n) (hn : n ≤ maxLen) : ∃ v, RSl S v ((y.l.drop a).take (b - a)) ∧ Qt P l (.slice T x lo hi none) S M v := by
  obtain ⟨b0, o, c, B, fz, rfl, hb, hR⟩ := hp
  have hyl : y.l.length = n := hR.1
  have hRL : RL S ((c.toList.drop o).take (y.l.length * Rep.z α)) y.l := by rw [hyl]; exact hR.2
  have hv : RSl S (.slice (some ⟨b0, o, none⟩) n n) y.l := .inr ⟨b0, o, n, c, B, fz, by rw [hyl], hb, by omega, by omega, hRL⟩
  have hs := hv.sub rfl a b n h1 (by omega) (by omega) (Nat.le_refl _)
  refine ⟨_, hs, fun dst ty pos af w hst => ?_⟩
  have e1 : (Instr.sureAddr (.pointer (some ⟨b0, o, none⟩))).run P w = .ok ⟨b0, o, none⟩ w := rfl
  have e2 := run_bounds (P := P) (w := w) (lo := lo.map (evF l)) (hi := hi.map (evF l)) (mx := none) (len := n) (cap := n) (a := a) (b := b) (m := n) hl hh (.inl ⟨rfl, rfl⟩) h1 h2 (Nat.le_refl _) (by simp) false
  have e3 : (if n = a then some (⟨b0, o, none⟩ : Addr) else Option.map (fun x : Addr => x.add (a * Rep.z α)) (some ⟨b0, o, none⟩)) = some (if n = a then ⟨b0, o, none⟩ else (⟨b0, o, none⟩ : Addr).add (a * Rep.z α)) := by split <;> rfl
  rw [e3]
  simp only [execOp, hx, Instr.sliceAt, Sem.run_bind, run_underlying hT.u, Result.andThen_ok, e1, e2, hE.run_sizeOf, Sem.run_pure, Option.map_none]

theorem t_ex0 {P : Program} {lo : List Oper} {Q : Exit → Act → World → Prop} {S : Snap} {M : List Chunk} {f : Nat} {bs : List Bool} {l : List Value} {D : List Deferred} {o : Oper} (k : Nat) {F : Value → Prop} (ho : lo[k]? = some o) (hok : takeOk lo bs k = true) (hns : isSt o = false) (hw : Region.wanted o (yielded lo.toArray l.toArray) = true)
    (hq : ∃ v, F v ∧ Qt P l o.op S M v) (h : ∀ v, F v → AnyV P lo Q f S M (bs.set k true) (putD l o.dst v) D) : AnyV P lo Q (f + 1) S M bs l D := let ⟨v, hv, q⟩ := hq; t_qt k ho hok hns hw q (h v hv)
/-! ### Bytes of a known length in a box -/
class LenIs (bs : List UInt8) (n : Nat) : Prop where
  h : bs.length = n
section
variable {P : Program} {S : Snap} {M : List Chunk} {l : List Value} {ops : Array Oper} {rest : List Oper} {Q : Exit → Act → World → Prop} {D : List Deferred} {w : World} {ty : TypeId} {pos : String} {af : Array Edge}
theorem cells_size1 {v : Value} (h : v.oneCell' = true) : v.cells.size = 1 := by
  have := congrArg List.length (cells_one h)
  simpa using this
theorem qt_loadD {T B : TypeId} {x : Operand} {zero : List Value} {z bb b k : Nat} {bs : List UInt8} (hx : evF l x = .pointer (some ⟨b, 0, none⟩)) (hk : M[k]? = some (.box b (u8s bs) B)) (hT : Ty P T true z zero bb) (hl : LenIs bs z) : Qt P l (.load T x) S M (.agg (u8s bs).toArray) :=
  qt_loadA hx hk hT (by rw [u8s_length, hl.h])
theorem s_stD {T B : TypeId} {x y : Operand} {zero c : List Value} {z bb b k : Nat} {bs : List UInt8} (hst : St S M w) (hx : evF l x = .pointer (some ⟨b, 0, none⟩)) (hk : M[k]? = some (.box b c B)) (hT : Ty P T true z zero bb) (hy : evF l y = .agg (u8s bs).toArray) (hl : LenIs bs z) (hc : c.length = z)
    (h : ∀ w', St S (M.set k (.box b (u8s bs) B)) w' → wpList P ops Q rest ⟨l.toArray, D⟩ w') : wpList P ops Q (⟨none, .store T x y, ty, pos, af, none⟩ :: rest) ⟨l.toArray, D⟩ w := by
  have hb := hl.h
  refine s_store hst hx k hk hT hy (cs := u8s bs) rfl (by rw [u8s_length, hb]) (List.all_eq_true.2 (u8s_one _)) (by omega) fun w' h' => h w' ?_
  rw [List.take_zero, List.nil_append, List.drop_of_length_le (by omega), List.append_nil] at h'
  exact h'
/-- The length of what a box holds. -/
theorem lenX {c : List Value} {z : Nat} (h : c.length = z := by first | (with_unfolding_all exact rfl) | (rw [u8s_length]; exact LenIs.h)) : c.length = z := h
theorem ret_D {fn : Func} {R : Ending → World → Prop} {a : Tmp} {T : TypeId} {z : Nat} {zero : List Value} {bb : Nat} {b : Nat} {bs : List UInt8} {B : TypeId} {k : Nat} (hr : fn.results = #[.cell a T]) (hst : St S M w) (hx : nth l a = .pointer (some ⟨b, 0, none⟩)) (hk : M[k]? = some (.box b (u8s bs) B))
    (hT : Ty P T true z zero bb) (hl : LenIs bs z) (hR : R (.returned (.agg (u8s bs).toArray)) w) : bodyPost P fn R .ret ⟨l.toArray, []⟩ w :=
  ret_cell hr hst hx k hk hT (cs := u8s bs) (by rw [List.drop_zero, List.take_of_length_le (by rw [u8s_length, hl.h]; exact Nat.le_refl _)]) (by rw [u8s_length, hl.h]) hR
/-- A store whose place and value are as usual; which rule holds is tried in turn. -/
theorem rv_D {a : Tmp} {T : TypeId} {z : Nat} {zero : List Value} {bb : Nat} {b : Nat} {bs : List UInt8} {B : TypeId} {k : Nat} (hst : St S M w) (hx : nth l a = .pointer (some ⟨b, 0, none⟩)) (hk : M[k]? = some (.box b (u8s bs) B))
    (hT : Ty P T true z zero bb) (hl : LenIs bs z) : RVar P l w (.cell a T) (.agg (u8s bs).toArray) :=
  rv_cell (cs := u8s bs) hst hx k hk hT (by rw [List.drop_zero, List.take_of_length_le (by rw [u8s_length, hl.h]; exact Nat.le_refl _)]) (by rw [u8s_length, hl.h])
end
end Go.Sl

/- Words and bytes, further operations: in range, with a constant, shortened. General over the program. -/
namespace Go.Sl
set_option linter.unusedSimpArgs false
set_option linter.unusedVariables false
open Go.RowKit
section
variable {P : Program} {S : Snap} {M : List Chunk} {l : List Value} {T U : TypeId} {x y : Operand}
theorem wrap_u8 {n : Int} (h : 0 ≤ n ∧ n ≤ 255) : IntKind.u8.wrap n = n := by
  simp only [IntKind.wrap, IntKind.bits, IntKind.signed]
  simp
  omega
theorem wrap_u32I {n : Int} (h : 0 ≤ n ∧ n ≤ 4294967295) : IntKind.u32.wrap n = n := by
  simp only [IntKind.wrap, IntKind.bits, IntKind.signed]
  simp
  omega
theorem qt_sub8 {a b : Int} (hx : evF l x = .int .u8 a) (hy : evF l y = .int .u8 b) (hw : 0 ≤ a - b ∧ a - b ≤ 255) : Qt P l (.binOp .sub T x y U) S M (.int .u8 (a - b)) := by
  have := qt_sub (P := P) (S := S) (M := M) (T := T) (U := U) hx hy
  rwa [wrap_u8 hw] at this
theorem qt_add8 {a b : Int} (hx : evF l x = .int .u8 a) (hy : evF l y = .int .u8 b) (hw : 0 ≤ a + b ∧ a + b ≤ 255) : Qt P l (.binOp .add T x y U) S M (.int .u8 (a + b)) := by
  have := qt_add (P := P) (S := S) (M := M) (T := T) (U := U) hx hy
  rwa [wrap_u8 hw] at this
theorem qt_addI32 {a b : Int} (hx : evF l x = .int .u32 a) (hy : evF l y = .int .u32 b) (hw : 0 ≤ a + b ∧ a + b ≤ 4294967295) : Qt P l (.binOp .add T x y U) S M (.int .u32 (a + b)) := by
  have := qt_add (P := P) (S := S) (M := M) (T := T) (U := U) hx hy
  rwa [wrap_u32I hw] at this
theorem qt_mulI32 {a b : Int} (hx : evF l x = .int .u32 a) (hy : evF l y = .int .u32 b) (hw : 0 ≤ a * b ∧ a * b ≤ 4294967295) : Qt P l (.binOp .mul T x y U) S M (.int .u32 (a * b)) := by
  have := qt_mul (P := P) (S := S) (M := M) (T := T) (U := U) hx hy
  rwa [wrap_u32I hw] at this
theorem qt_convI832 {n : Int} (hx : evF l x = .int .u8 n) (hT : IntT P T .u8) (hU : IntT P U .u32) (hw : 0 ≤ n ∧ n ≤ 255) : Qt P l (.convert T U x) S M (.int .u32 n) :=
  qt_conv_b hx hT hU (wrap_u32I (by omega))
theorem qt_xorl32 {a : UInt32} (hx : evF l x = .int .u32 4294967295) (hy : evF l y = .int .u32 (a.toNat : Int)) : Qt P l (.binOp .xor T x y U) S M (.int .u32 ((4294967295 ^^^ a : UInt32).toNat : Int)) :=
  qt_xor32 (a := 4294967295) hx hy
/-- The last byte of a word. -/
theorem qt_conv328 {a : UInt32} (hx : evF l x = .int .u32 (a.toNat : Int)) (hT : IntT P T .u32) (hU : IntT P U .u8) : Qt P l (.convert T U x) S M (.int .u8 ((UInt8.ofNat a.toNat).toNat : Int)) :=
  qt_conv_b hx hT hU (by
    rw [UInt8.toNat_ofNat']
    simp only [IntKind.wrap, IntKind.bits, IntKind.signed]
    simp)
theorem qt_rem' {a b : Int} (hx : evF l x = .int .i64 a) (hy : evF l y = .int .i64 b) (hw : 0 ≤ a ∧ 0 < b) : Qt P l (.binOp .rem T x y U) S M (.int .i64 (a % b)) :=
  qt_rem_b hx hy (by omega) (Int.tmod_eq_emod_of_nonneg hw.1)
theorem qt_quo' {a b : Int} (hx : evF l x = .int .i64 a) (hy : evF l y = .int .i64 b) (hw : 0 ≤ a ∧ 0 < b ∧ a ≤ 9223372036854775807) : Qt P l (.binOp .quo T x y U) S M (.int .i64 (a / b)) := fun dst ty pos af w _ => by
  have h0 : b ≠ 0 := by omega
  have h1 : a.tdiv b = a / b := Int.tdiv_eq_ediv_of_nonneg hw.1
  have h2 : 0 ≤ a / b := Int.ediv_nonneg hw.1 (by omega)
  have h3 : a / b ≤ a := Int.ediv_le_self _ hw.1
  have h4 : IntKind.i64.wrap (a / b) = a / b := by rw [IntKind.wrap_i64]; omega
  simp [execOp, hx, hy, binOp_quo, eqGuard_at_int, Op.intDiv, h0, h1, h4]
theorem bits_xor8 (a b : UInt8) : bits .xor .u8 (a.toNat : Int) (b.toNat : Int) = ((a ^^^ b).toNat : Int) := by
  show IntKind.u8.wrap ((BitVec.ofInt 8 (a.toNat : Int) ^^^ BitVec.ofInt 8 (b.toNat : Int)).toNat : Int) = _
  have e : ∀ x : UInt8, BitVec.ofInt 8 (x.toNat : Int) = x.toBitVec := fun x => by rw [BitVec.ofInt_natCast]; exact BitVec.ofNat_toNat ..
  rw [e, e, wrap_u8 (by have := (a.toBitVec ^^^ b.toBitVec).isLt; omega)]
  rfl
theorem qt_xor8 {a b : UInt8} (hx : evF l x = .int .u8 (a.toNat : Int)) (hy : evF l y = .int .u8 (b.toNat : Int)) : Qt P l (.binOp .xor T x y U) S M (.int .u8 ((a ^^^ b).toNat : Int)) := fun dst ty pos af w _ => by
  simp [execOp, hx, hy, eqGuard_at_int, binOp_xor, intBits_xor, bits_xor8]
theorem qt_extract {vs : List Value} {i : Nat} {v : Value} (hx : evF l x = .tuple vs.toArray) (hi : vs[i]? = some v) : Qt P l (.extract x i) S M v := fun dst ty pos af w _ => by
  simp [execOp, hx, Instr.extract, hi]
end
/-! ### Single bytes of a box -/
theorem u8s_get {bs : List UInt8} {j : Nat} (h : j < bs.length) : ((u8s bs).drop j).take 1 = [.int .u8 ((bs.getD j 0).toNat : Int)] := by
  rw [List.drop_eq_getElem_cons (by rw [u8s_length]; exact h), List.take_succ_cons, List.take_zero, List.getD_eq_getElem?_getD, List.getElem?_eq_getElem h]
  simp [u8s]
theorem u8s_set {bs : List UInt8} {j : Nat} (h : j < bs.length) (y : UInt8) : (u8s bs).take j ++ [.int .u8 (y.toNat : Int)] ++ (u8s bs).drop (j + 1) = u8s (bs.set j y) := by
  have : u8s (bs.set j y) = (u8s bs).set j (.int .u8 (y.toNat : Int)) := by simp [u8s, List.map_set]
  rw [this, List.set_eq_take_append_cons_drop, if_pos (by rw [u8s_length]; exact h), List.append_assoc]
  rfl
section
variable {P : Program} {S : Snap} {M : List Chunk} {l : List Value} {ops : Array Oper} {rest : List Oper} {Q : Exit → Act → World → Prop} {D : List Deferred} {w : World} {ty : TypeId} {pos : String} {af : Array Edge} {T B : TypeId} {x y : Operand} {zero : List Value} {bb b off k : Nat} {bs : List UInt8} {u : UInt8}
theorem qt_ldB8 (hx : evF l x = .pointer (some ⟨b, off, none⟩)) (hk : M[k]? = some (.box b (u8s bs) B)) (hT : Ty P T false 1 zero bb) (hl : off < bs.length) : Qt P l (.load T x) S M (.int .u8 ((bs.getD off 0).toNat : Int)) :=
  qt_load hx k hk hT (u8s_get hl) rfl
theorem s_stB8 (hst : St S M w) (hx : evF l x = .pointer (some ⟨b, off, none⟩)) (hk : M[k]? = some (.box b (u8s bs) B)) (hT : Ty P T false 1 zero bb) (hy : evF l y = .int .u8 (u.toNat : Int)) (hl : off < bs.length)
    (h : ∀ w', St S (M.set k (.box b (u8s (bs.set off u)) B)) w' → wpList P ops Q rest ⟨l.toArray, D⟩ w') :
    wpList P ops Q (⟨none, .store T x y, ty, pos, af, none⟩ :: rest) ⟨l.toArray, D⟩ w :=
  s_store hst hx k hk hT hy (cs := [.int .u8 (u.toNat : Int)]) rfl rfl rfl (by rw [u8s_length]; omega) fun w' h' => h w' (by rw [u8s_set hl] at h'; exact h')
end
end Go.Sl

/- Regions that draw their order: what neither reads nor changes memory may be taken at any time. General over the program. -/
namespace Go.Sl
set_option linter.unusedSimpArgs false
set_option linter.unusedVariables false
open Go.RowKit
section
variable {P : Program} {lo : List Oper} {Q : Exit → Act → World → Prop}
def takeOkP (lo : List Oper) (bs : List Bool) (i : Nat) : Bool :=
  Region.noSelect lo.toArray && Region.free .any lo.toArray bs.toArray i && (Region.ready .any lo.toArray bs.toArray).contains i
theorem v_takeP {i : Nat} {oi : Oper} {v : Value} {D : List Deferred} (hi : lo[i]? = some oi) (hsel : Region.noSelect lo.toArray = true) (hns : isSt oi = false) :
    ∀ (f : Nat) (S : Snap) (M : List Chunk) (bs : List Bool) (l : List Value),
      (∀ j oj, lo[j]? = some oj → j ≠ i → bs.toArray.getD j true = false → (∀ e ∈ oj.after, Region.binds .any e = true → e.on ≠ i) → oi.apart lo.toArray oj = true) →
      i ∈ Region.ready .any lo.toArray bs.toArray → (Region.wanted oi (yielded lo.toArray l.toArray) = true ∧ (∀ S M, YX P S M l oi v) ∨ Region.wanted oi (yielded lo.toArray l.toArray) = false ∧ v = undef) →
      AnyV P lo Q f S M (bs.set i true) (putD l oi.dst v) D → AnyV P lo Q (f + 1) S M bs l D := by
  have hi' : lo.toArray[i]? = some oi := by simpa using hi
  have first : ∀ {f : Nat} {S : Snap} {M : List Chunk} {bs : List Bool} {l : List Value} {w : World}, (Region.wanted oi (yielded lo.toArray l.toArray) = true ∧ (∀ S M, YX P S M l oi v) ∨ Region.wanted oi (yielded lo.toArray l.toArray) = false ∧ v = undef) → St S M w →
      AnyV P lo Q f S M (bs.set i true) (putD l oi.dst v) D → wpOp P lo.toArray (NoPanic Q) i (fun a' w' => ∃ S' M' l', ((∃ o, lo[i]? = some o ∧ isSt o = true) ∨ (S.Le S' ∧ Suf M M')) ∧ a' = ⟨l'.toArray, D⟩ ∧ St S' M' w' ∧ AnyV P lo Q f S' M' (bs.set i true) l' D) ⟨l.toArray, D⟩ w := by
    intro f S M bs l w hy hst H
    rcases hy with ⟨hw, hy⟩ | ⟨hw, rfl⟩
    · exact wpOp_quiet hi' hw hst (hy S M S M w (Snap.Le.refl S) (Suf.refl M) hst) fun w' hw' => ⟨S, M, _, .inr ⟨Snap.Le.refl S, Suf.refl M⟩, rfl, hw', H⟩
    · unfold wpOp
      simp only [hi', hw, Bool.false_eq_true, if_false]
      exact ⟨S, M, _, .inr ⟨Snap.Le.refl S, Suf.refl M⟩, putD_put l D oi.dst undef, hst, H⟩
  intro f
  induction f with
  | zero =>
    intro S M bs l hfree hr hy H
    refine ⟨fun e => (by rw [e] at hr; cases hr), fun j hj w hst => ?_⟩
    by_cases hji : j = i
    · subst hji; exact first hy hst H
    · have := ready_mono hj hji
      rw [set_arr, H.1] at this
      cases this
  | succ f ih =>
    intro S M bs l hfree hr hy H
    refine ⟨fun e => (by rw [e] at hr; cases hr), fun j hj w hst => ?_⟩
    by_cases hji : j = i
    · subst hji; exact first hy hst H
    · have hj2 : j ∈ Region.ready .any lo.toArray (bs.set i true).toArray := by rw [← set_arr]; exact ready_mono hj hji
      have h1 := H.2 j hj2 w hst
      obtain ⟨hjun, oj, hoj, hall⟩ := mem_ready.1 hj
      have hnot : ∀ e ∈ oj.after, Region.binds .any e = true → e.on ≠ i := fun e he hb heq => by
        have h1 := hall e he hb
        have h0 := (mem_ready.1 hr).1
        rw [heq, getD_both h0] at h1
        cases h1
      have hoj' : lo[j]? = some oj := by simpa using hoj
      rw [← putD_put] at h1
      have h2 := wpOp_putX (i := i) hoj (hfree j oj hoj' hji hjun hnot) (fun cs b => Region.noSelect_spec hsel i oi cs b hi') (fun cs b => Region.noSelect_spec hsel j oj cs b hoj) h1
      refine wpOp_mono (fun a' w' h3 => ?_) h2
      obtain ⟨⟨hc1, hc2⟩, S', M', l'', hex, hl, hst', hA⟩ := h3
      obtain ⟨t, d⟩ := a'
      have hd : d = D := by
        have := congrArg Act.defers hl
        cases ho : oi.dst <;> simpa [Act.put, ho] using this
      subst hd
      obtain ⟨l', rfl⟩ : ∃ l' : List Value, t = l'.toArray := ⟨t.toList, by simp⟩
      rw [putD_put] at hl
      obtain rfl : putD l' oi.dst v = l'' := by
        have := congrArg (fun a => a.tmps.toList) hl
        simpa using this
      refine ⟨S', M', l', hex, rfl, hst', ih S' M' (bs.set j true) l' ?_ ?_ ?_ ?_⟩
      · intro k ok hk hki hun hno
        refine hfree k ok hk hki ?_ hno
        rw [← set_arr] at hun
        by_cases hjk : j = k
        · subst hjk; exact hjun
        · rwa [getD_set_ne true hjk] at hun
      · rw [← set_arr]; exact ready_mono hr (Ne.symm hji)
      · rw [evF_eq, evF_eq] at hc1
        rcases hy with ⟨hw, hy⟩ | ⟨hw, hv⟩
        · refine .inl ⟨hc2.trans hw, ?_⟩
          intro S1 M1 S2 M2 w2 hS2 hM2 hst2
          rw [hc1]
          exact hy S1 M1 S2 M2 w2 hS2 hM2 hst2
        · exact .inr ⟨hc2.trans hw, hv⟩
      · have e := Array.setIfInBounds_comm (xs := bs.toArray) (i := i) (j := j) true true (Ne.symm hji)
        have e' : (bs.set i true).set j true = (bs.set j true).set i true := by
          have := congrArg Array.toList e
          simpa using this
        rw [← e']
        exact hA

variable {S : Snap} {M : List Chunk} {f : Nat} {bs : List Bool} {l : List Value} {D : List Deferred} {o : Oper} {v : Value}
/-- Take an operation that does not look at memory. -/
theorem t_pure (k : Nat) (ho : lo[k]? = some o) (hok : takeOkP lo bs k = true) (hns : isSt o = false) (hw : Region.wanted o (yielded lo.toArray l.toArray) = true) (hq : ∀ S M, Qt P l o.op S M v)
    (h : AnyV P lo Q f S M (bs.set k true) (putD l o.dst v) D) : AnyV P lo Q (f + 1) S M bs l D := by
  simp only [takeOkP, Bool.and_eq_true] at hok
  obtain ⟨⟨h1, h2⟩, h3⟩ := hok
  have ho' : lo.toArray[k]? = some o := by simpa using ho
  exact v_takeP ho h1 hns f S M bs l (fun j oj hj => Region.free_spec ho' h2 j oj (by simpa using hj)) (by simpa using h3) (.inl ⟨hw, fun S M => YX.qt (hq S M)⟩) h
theorem t_pureno (k : Nat) (ho : lo[k]? = some o) (hok : takeOkP lo bs k = true) (hns : isSt o = false) (hw : Region.wanted o (yielded lo.toArray l.toArray) = false)
    (h : AnyV P lo Q f S M (bs.set k true) (putD l o.dst undef) D) : AnyV P lo Q (f + 1) S M bs l D := by
  simp only [takeOkP, Bool.and_eq_true] at hok
  obtain ⟨⟨h1, h2⟩, h3⟩ := hok
  have ho' : lo.toArray[k]? = some o := by simpa using ho
  exact v_takeP ho h1 hns f S M bs l (fun j oj hj => Region.free_spec ho' h2 j oj (by simpa using hj)) (by simpa using h3) (.inr ⟨hw, rfl⟩) h
end
end Go.Sl

/- From a law's walk to its statement: what came in reads as it did. General over the law. -/
namespace Go.Sl
set_option linter.unusedSimpArgs false
set_option linter.unusedVariables false
open Go.RowKit Go.ChangeShapes Go.WideShapes Go.Proofs.YtjapdhaimbalkaaDoor

theorem trodAll_stays {H : Type} {enc : TypeId × Value → H} {P : Program} (hl : laidOutB P = true) {W W' : World} {sp : Nat → Bool} : ∀ {ts : List TypeId} {vs : List Value} {ds : List (DataW H)} {ps : List MemPlace},
    (∀ t ∈ ts, P.readableRec t = true ∧ t < P.types.size) → DataW.TrodAll enc P W 0 (fun _ => true) true ts vs ds ps → (∀ p ∈ ps, W.sameAt W' p) → (∀ p ∈ ps, sp p.block = true) →
    DataW.TrodAll enc P W' 0 sp true ts vs ds ps
  | [], _, _, _, _, h, _, _ => by
    obtain ⟨rfl, rfl, rfl⟩ := trodAll_nil h
    exact trodAll_mk0
  | t :: ts, _, _, _, hr, h, h1, h2 => by
    obtain ⟨v, vs', d, ds', p, q, rfl, rfl, rfl, h0, r0⟩ := trodAll_cons h
    exact trodAll_cons_mk (WideElems.Trod_stays hl (hr t (.head _)).1 (hr t (.head _)).2 h0 (fun x hx => h1 x (List.mem_append.2 (.inl hx))) (fun x hx => h2 x (List.mem_append.2 (.inl hx))))
      (trodAll_stays hl (fun t' ht' => hr t' (.tail _ ht')) r0 (fun x hx => h1 x (List.mem_append.2 (.inr hx))) (fun x hx => h2 x (List.mem_append.2 (.inr hx))))

theorem law_post {H : Type} {enc : TypeId × Value → H} {P : Program} {f : Func} {s : ChangeSpec} {W W' : World} {args : Array Value} {ds gs : List (DataW H)} {before : List MemPlace} {tb : TypeId} (hvars : s.vars = [])
    (hW : DataW.Whole enc P f.params.toList s.vars false W args.toList ds gs before) (hl : laidOutB P = true) (hr : ∀ t ∈ f.params.toList, P.readableRec t = true ∧ t < P.types.size)
    (hres : f.resultTypes = #[tb]) (hb : P.underlying tb = some .bool) (hs1 : (s.fn H ds).results = [.lit (.bool true)]) (hs2 : (s.fn H ds).args = ds) (hs3 : (s.fn H ds).vars = []) (hB : Below W.heap.size W W') :
    s.post enc P f false true false false W args (.bool true) W' := by
  have hW' := hW
  obtain ⟨p, q, hA, hV, rfl, hz, hn⟩ := hW
  rw [hvars] at hV
  obtain ⟨rfl, rfl⟩ := trodVars_none hV
  have hlt : ∀ x ∈ p ++ [], x.block < W.heap.size := fun x hx => by simpa using hW'.lt x hx
  have hsame : ∀ x ∈ p, W.sameAt W' x := fun x hx => hB.same (hlt x (by simpa using hx))
  have hargs : ∀ sp : Nat → Bool, (∀ x ∈ p ++ [], sp x.block = true) → DataW.TrodAll enc P W' 0 sp true f.params.toList args.toList (s.fn H (ds ++ [])).args p := fun sp hsp => by
    rw [List.append_nil, hs2]
    exact trodAll_stays hl hr hA hsame (fun x hx => hsp x (by simpa using hx))
  have hvs : ∀ sp : Nat → Bool, DataW.TrodVars enc P W' sp s.vars (s.fn H (ds ++ [])).vars [] := fun sp => by
    rw [List.append_nil, hvars, hs3]
    rfl
  have hress : ∀ (b : Nat) (sp : Nat → Bool) (hd : Bool), DataW.TrodAll enc P W' b sp hd f.resultTypes.toList ((Value.bool true).resultList f.resultTypes.size) (s.fn H (ds ++ [])).results [] := fun b sp hd => by
    rw [List.append_nil, hs1, hres]
    exact trodAll_cons_mk (shut_bool hb _) trodAll_mk0
  have hold : ∀ x ∈ p ++ [], (fun b => decide (b < W.heap.size)) x.block = true := fun x hx => by simpa using hlt x hx
  refine ⟨ds, [], p ++ [], [], p, [], hW', hress _ _ _, hargs _ hold, hvs _, World.keptBut_mono (fun x hx => ⟨hx, ?_⟩) (hB.frame (· ∈ p ++ [])), fun _ => ?_⟩
  · exact Or.inr (by simpa using hx)
  · refine ⟨ok_one hres rfl (okWide_bool_mk hb _), _, _, ([] ++ p) ++ [], ⟨[] ++ p, [], trodAll_append (hargs _ (fun _ _ => rfl)) (hress _ _ _), hvs _, rfl, ?_, ?_⟩, ?_⟩
    · intro b off hp
      have hp' : MemPlace.cell b off ∈ p ++ [] := by simpa using hp
      have := hlt _ hp'
      rw [hB.frozen (by simpa [MemPlace.block] using this)]
      exact hz b off hp'
    · intro ha
      cases ha
    · intro x hx _
      simpa using hx

/-- An argument's reading. -/
theorem open_arg {H : Type} {enc : TypeId × Value → H} {P : Program} {W : World} {T : TypeId} {α : Type} [Rep α] [Siz α] [Opens P T α] {b0 : Nat} {sp : Nat → Bool} {held : Bool} {v : Value} {d : DataW H} {p : List MemPlace} (h : DataW.Trod enc P W b0 sp held T v d p) :
    ∃ y : α, Rep.R (snapOf W) v.cells.toList y ∧ Siz.siz y ≤ Rows.uptoBulk d := by
  obtain ⟨n, hn⟩ := h
  exact Opens.opens hn

theorem small_all {H : Type} {ds : List (DataW H)} (hk : Rows.uptoSmall H ds = true) : Rows.uptoBulkAll ds ≤ 1048576 := by simpa [Rows.uptoSmall] using hk
end Go.Sl

/- Structs whose cells are data: literals, fields stored, whole boxes; lists of byte slices made. General over the program. -/
namespace Go.Sl
set_option linter.unusedSimpArgs false
set_option linter.unusedVariables false
open Go.RowKit
variable {P : Program} {S : Snap} {M : List Chunk} {l : List Value}

theorem put_fold (off : Nat) : ∀ (vs : List Value) (j : Nat) (c : Array Value), off + j + vs.length ≤ c.size → (vs.zipIdx j).foldl (fun cs p => cs.setIfInBounds (off + p.2) p.1) c = (c.toList.take (off + j) ++ vs ++ c.toList.drop (off + j + vs.length)).toArray
  | [], j, c, _ => by simp
  | u :: us, j, c, hc => by
    simp only [List.length_cons] at hc
    rw [List.zipIdx_cons, List.foldl_cons, put_fold off us (j + 1) _ (by simp; omega)]
    have hlt : off + j < c.toList.length := by simp; omega
    congr 1
    simp only [Array.toList_setIfInBounds]
    rw [List.set_eq_take_append_cons_drop, if_pos hlt]
    have hl2 : (c.toList.take (off + j)).length = off + j := by simp; omega
    rw [show off + (j + 1) = off + j + 1 from by omega, take_at hl2, drop_at hl2, List.drop_drop]
    simp only [List.append_assoc, List.singleton_append]
    rw [show off + j + 1 + us.length = off + j + (u :: us).length from by simp; omega]
theorem fill_step {place : Nat → Option (Nat × Nat)} {cells : List Value} {i off size : Nat} {v : Value} {r : List (Nat × Value)} (hp : place i = some (off, size)) (hs : v.cells.toList.length = size) (hb : off + size ≤ cells.length) :
    Instr.fill place cells.toArray ((i, v) :: r) = Instr.fill place (cells.take off ++ v.cells.toList ++ cells.drop (off + size)).toArray r := by
  have hs' : v.cells.size = size := by simpa using hs
  have hbig : ¬ (off + size > cells.length) := by omega
  rw [Instr.fill, hp]
  simp only [hs', ne_eq, not_true_eq_false, decide_false, Bool.false_or, List.size_toArray]
  rw [if_neg (by simpa using hbig)]
  have := put_fold off v.cells.toList 0 cells.toArray (by simp [hs']; omega)
  have hz : v.cells.zipIdx.foldl (fun cs x => match x with | (c, j) => cs.setIfInBounds (off + j) c) cells.toArray = (cells.take off ++ v.cells.toList ++ cells.drop (off + size)).toArray := by
    rw [← Array.foldl_toList]
    simpa [hs'] using this
  rw [hz]

/-- Fields put one after the other. -/
inductive Puts (S : Snap) (places : List (Nat × Nat)) {α : Type} [Rep α] : List (Nat × Value) → α → α → Prop
  | nil {x : α} : Puts S places [] x x
  | cons {k off : Nat} {β : Type} [Rep β] {get : α → β} {put : α → β → α} [HasF α k β off get put] {v : Value} {y : β} {x x' : α} {r : List (Nat × Value)} (hv : Rep.R S v.cells.toList y) (hp : places[k]? = some (off, Rep.z β)) (h : Puts S places r (put x y) x') : Puts S places ((k, v) :: r) x x'
theorem fill_puts {α : Type} [Rep α] {places : List (Nat × Nat)} {parts : List (Nat × Value)} {x x' : α} (h : Puts S places parts x x') : ∀ cells, Rep.R S cells x → ∃ cs, Instr.fill (fun i => places.toArray[i]?) cells.toArray parts = some cs.toArray ∧ Rep.R S cs x' := by
  induction h with
  | nil => exact fun cells hc => ⟨cells, rfl, hc⟩
  | cons hv hp h ih =>
    rename_i k off β _ get put i v y x x' r
    intro cells hc
    have hb := i.le
    have hl := Rep.len hc
    rw [fill_step (off := off) (size := Rep.z β) (by simpa using hp) (Rep.len hv) (by omega)]
    exact ih _ (i.wr hc hv)

section
variable {α : Type} [Rep α] {T : TypeId} {places : List (Nat × Nat)} {z : Nat} {zero : List Value} {bb : Nat} {x0 x' : α} {ps : List (Nat × Operand)}
/-- A struct literal. -/
theorem qt_buildP (hT : StructT P T places) (hZ : Ty P T true z zero bb) (h0 : Rep.R S zero x0) (hp : Puts S places (ps.map fun q => (q.1, evF l q.2)) x0 x') : ∃ v, (∃ cs, v = .agg cs.toArray ∧ Rep.R S cs x') ∧ Qt P l (.build T ps.toArray) S M v := by
  obtain ⟨cs, hf, hR⟩ := fill_puts hp zero h0
  exact ⟨_, ⟨cs, rfl, hR⟩, qt_buildS hT hZ hf⟩
theorem qt_buildF {cells : α → List Value} (hF : FlatC α cells) (hT : StructT P T places) (hZ : Ty P T true z zero bb) (h0 : Rep.R S zero x0) (hp : Puts S places (ps.map fun q => (q.1, evF l q.2)) x0 x') : Qt P l (.build T ps.toArray) S M (.agg (cells x').toArray) := by
  obtain ⟨cs, hf, hR⟩ := fill_puts hp zero h0
  rw [← hF.flat hR]
  exact qt_buildS hT hZ hf
end
section
variable {α β : Type} [Rep α] [Rep β]
instance flatProd {f : α → List Value} {g : β → List Value} [hf : FlatC α f] [hg : FlatC β g] : FlatC (α × β) (fun p => f p.1 ++ g p.2) := ⟨fun {S cs x} h => by
  rw [← hf.flat h.2.1, ← hg.flat h.2.2, List.take_append_drop]⟩
instance flatUnit : FlatC Unit (fun _ => []) := ⟨fun h => h⟩
instance flatInt : FlatC Int (fun n => [.int .i64 n]) := ⟨fun h => h.1⟩
instance flatBool : FlatC Bool (fun b => [.bool b]) := ⟨fun h => h⟩
instance flatU8 : FlatC UInt8 (fun b => [.int .u8 (b.toNat : Int)]) := ⟨fun h => h⟩

variable {ops : Array Oper} {rest : List Oper} {Q : Exit → Act → World → Prop} {D : List Deferred} {w : World} {ty : TypeId} {pos : String} {af : Array Edge} {d : Tmp}
/-- A field of an own box stored, both flat. -/
theorem s_stF {T B : TypeId} {x y : Operand} {agg : Bool} {zero : List Value} {bb b off kf k : Nat} {cells : α → List Value} {get : α → β} {put : α → β → α} {x0 : α} {y0 : β} {cs : List Value} (hst : St S M w) (hF : FlatC α cells) (hx : evF l x = .pointer (some ⟨b, off, none⟩)) (hk : M[k]? = some (.box b (cells x0) B))
    (i : HasF α kf β off get put) (h0 : Rep.R S (cells x0) x0) (hT : Ty P T agg (Rep.z β) zero bb) (hy : evF l y = vOf agg cs) (hR : Rep.R S cs y0) (ha : agg = false → Rep.z β = 1)
    (h : ∀ w', Rep.R S (cells (put x0 y0)) (put x0 y0) → St S (M.set k (.box b (cells (put x0 y0)) B)) w' → wpList P ops Q rest ⟨l.toArray, D⟩ w') :
    wpList P ops Q (⟨none, .store T x y, ty, pos, af, none⟩ :: rest) ⟨l.toArray, D⟩ w := by
  have hl := Rep.len hR
  have hb := i.le
  have hl0 := Rep.len h0
  have h1 : cs.all (·.oneCell') = true := List.all_eq_true.2 (Rep.one hR)
  have hw := i.wr h0 hR
  have hc : (vOf agg cs).cells.toList = cs := by
    cases agg with
    | true => rfl
    | false =>
      have : cs.length = 1 := by rw [hl, ha rfl]
      obtain ⟨v, rfl⟩ := List.length_eq_one_iff.1 this
      have hv : v.oneCell' = true := Rep.one hR v (by simp)
      exact cells_one hv
  refine s_store hst hx k hk hT hy (cs := cs) hc hl h1 (by omega) fun w' hst' => ?_
  rw [hF.flat hw] at hst' hw
  exact h w' hw hst'
/-- A whole own box, flat. -/
theorem qt_loadF {T B : TypeId} {x : Operand} {zero c : List Value} {bb b k : Nat} {x0 : α} (hx : evF l x = .pointer (some ⟨b, 0, none⟩)) (hk : M[k]? = some (.box b c B)) (hR : Rep.R S c x0) (hT : Ty P T true (Rep.z α) zero bb) : Qt P l (.load T x) S M (.agg c.toArray) :=
  qt_loadA hx hk hT (Rep.len hR)
/-- A whole own box stored. -/
theorem s_stW0 {T B : TypeId} {x y : Operand} {zero c cs : List Value} {bb b k : Nat} {x0 : α} (hst : St S M w) (hx : evF l x = .pointer (some ⟨b, 0, none⟩)) (hk : M[k]? = some (.box b c B)) (hT : Ty P T true (Rep.z α) zero bb) (hy : evF l y = .agg cs.toArray) (hR : Rep.R S cs x0) (hc : c.length = Rep.z α)
    (h : ∀ w', St S (M.set k (.box b cs B)) w' → wpList P ops Q rest ⟨l.toArray, D⟩ w') :
    wpList P ops Q (⟨none, .store T x y, ty, pos, af, none⟩ :: rest) ⟨l.toArray, D⟩ w := by
  have hl := Rep.len hR
  refine s_store hst hx k hk hT hy (cs := cs) rfl hl (List.all_eq_true.2 (Rep.one hR)) (by omega) fun w' h' => h w' ?_
  rw [List.take_zero, List.nil_append, List.drop_of_length_le (by omega), List.append_nil] at h'
  exact h'
theorem rv_F {a : Tmp} {T : TypeId} {zero c : List Value} {bb : Nat} {b : Nat} {B : TypeId} {k : Nat} {x0 : α} (hst : St S M w) (hx : nth l a = .pointer (some ⟨b, 0, none⟩)) (hk : M[k]? = some (.box b c B))
    (hT : Ty P T true (Rep.z α) zero bb) (hR : Rep.R S c x0) : RVar P l w (.cell a T) (.agg c.toArray) :=
  rv_cell (cs := c) hst hx k hk hT (by rw [List.drop_zero, List.take_of_length_le (by rw [Rep.len hR]; exact Nat.le_refl _)]) (Rep.len hR)
theorem ret_F {fn : Func} {R : Ending → World → Prop} {a : Tmp} {T : TypeId} {zero c : List Value} {bb : Nat} {b : Nat} {B : TypeId} {k : Nat} {x0 : α} (hr : fn.results = #[.cell a T]) (hst : St S M w) (hx : nth l a = .pointer (some ⟨b, 0, none⟩)) (hk : M[k]? = some (.box b c B))
    (hT : Ty P T true (Rep.z α) zero bb) (hx0 : Rep.R S c x0) (hR : R (.returned (.agg c.toArray)) w) : bodyPost P fn R .ret ⟨l.toArray, []⟩ w :=
  ret_cell hr hst hx k hk hT (cs := c) (by rw [List.drop_zero, List.take_of_length_le (by rw [Rep.len hx0]; exact Nat.le_refl _)]) (Rep.len hx0) hR
end

/-! ### Lists of byte slices -/
inductive Sls (S : Snap) : List Value → List (List UInt8) → Prop
  | nil : Sls S [] []
  | cons {v : Value} {x : List UInt8} {vs : List Value} {xs : List (List UInt8)} (h : RSl S v x) (hs : Sls S vs xs) : Sls S (v :: vs) (x :: xs)
theorem Sls.rl {vs : List Value} {xs : List (List UInt8)} (h : Sls S vs xs) : RL S vs xs ∧ vs.length = xs.length ∧ (∀ v ∈ vs, v.oneCell' = true) := by
  induction h with
  | nil => exact ⟨RL.nil, rfl, by simp⟩
  | @cons v x vs xs hv hs ih =>
    refine ⟨⟨by have h1 := ih.2.1; have hz : Rep.z (List UInt8) = 1 := rfl; rw [hz]; simp [h1], fun i y hy => ?_⟩, by simp [ih.2.1], fun u hu => ?_⟩
    · have hz : Rep.z (List UInt8) = 1 := rfl
      cases i with
      | zero =>
        cases hy
        exact ⟨v, rfl, hv⟩
      | succ i =>
        have := ih.1.2 i y (by simpa using hy)
        rw [hz, Nat.mul_one] at this ⊢
        exact this
    · rcases List.mem_cons.1 hu with rfl | hu
      · exact hv.oneCell
      · exact ih.2.2 u hu
section
variable {ops : Array Oper} {rest : List Oper} {Q : Exit → Act → World → Prop} {D : List Deferred} {w : World} {ty : TypeId} {pos : String} {af : Array Edge} {d : Tmp}
/-- A literal of byte slices, taken as data. -/
theorem s_parts {T E : TypeId} {n : Nat} {parts : Array (Nat × Operand)} {zero : List Value} {bb : Nat} {vs : List Value} {xs : List (List UInt8)} (hst : St S M w) (hs : Sls S vs xs) (hT : SlT P T E) (hE : Ty P E false 1 zero bb)
    (hp : parts.toList.map (fun p => (p.1, evF l p.2)) = (vs.zipIdx.map fun p => (p.2, p.1))) (hn : vs.length = n) (hb : n ≤ 1000)
    (h : ∀ S' u w', S.Le S' → RSl S' u xs → u.oneCell' = true → St S' M w' → wpList P ops Q rest ⟨(l.set d u).toArray, D⟩ w') :
    wpList P ops Q (⟨some d, .buildSlice T n parts, ty, pos, af, none⟩ :: rest) ⟨l.toArray, D⟩ w := by
  obtain ⟨h1, h2, h3⟩ := hs.rl
  have hfl : (vs.map (·.cells.toList)).flatten = vs := by
    clear hs h1 h2 hp hn
    induction vs with
    | nil => rfl
    | cons v r ih => rw [List.map_cons, List.flatten_cons, ih (fun u hu => h3 u (.tail _ hu)), cells_one (h3 v (.head _))]; rfl
  refine s_lit (vs := vs) (cs := vs) hst hT hE hp hn (fun v hv => cells_size1 (h3 v hv)) hfl (by omega) (by omega) fun u w' hst' => ?_
  obtain ⟨S', a, b, c⟩ := St.freeze (α := List UInt8) (T := E) (xs := xs) hst' h1 (by omega)
  exact h S' u w' a c c.oneCell b
end
end Go.Sl

/- Short forms of the normalisations that our marks print. General over the program. -/
namespace Go.Sl
set_option linter.unusedSimpArgs false
set_option linter.unusedVariables false
open Go.RowKit
theorem nX {p q : Prop} (hq : q) (h : p = q := by first | (simp only [List.set_cons_succ, List.set_cons_zero, vOf_true, vOf_false, List.drop_succ_cons, List.drop_zero, List.take_succ_cons, List.take_zero, putD, Int.toNat_zero, Int.reduceToNat, Nat.mul_one, Nat.zero_add, Nat.add_zero, Nat.reduceMul, Nat.reduceAdd, Nat.zero_mul, Int.reduceSub, Int.reduceAdd, Int.reduceMul, Int.reduceNeg, Bool.not_true, Bool.not_false]; exact rfl) | exact rfl) : p := h.symm ▸ hq
theorem nY {p q : Prop} (hq : q) (h : p = q := by first | (simp only [Int.toNat_natCast, List.set_cons_succ, List.set_cons_zero, vOf_true, vOf_false, List.drop_succ_cons, List.drop_zero, List.take_succ_cons, List.take_zero, putD, Int.toNat_zero, Int.reduceToNat, Nat.mul_one, Nat.zero_add, Nat.add_zero, Nat.reduceMul, Nat.reduceAdd, Nat.zero_mul, Int.reduceSub, Int.reduceAdd, Int.reduceMul, Int.reduceNeg, Bool.not_true, Bool.not_false]; exact rfl) | exact rfl) : p := h.symm ▸ hq
theorem nH {p q : Prop} (hp : p) (h : p = q := by first | (simp only [List.set_cons_succ, List.set_cons_zero, List.drop_succ_cons, List.drop_zero, List.take_succ_cons, List.take_zero, List.nil_append, List.cons_append, List.append_nil, Value.cells, List.eraseIdx_cons_zero, List.eraseIdx_cons_succ, Nat.zero_add, Nat.add_zero, List.flatten_cons, List.flatten_nil, List.map_cons, List.map_nil]; exact rfl) | exact rfl) : q := h ▸ hp
end Go.Sl

/- Regions that draw their order: a bag of calls, each of which makes a datum; whichever order they come in. General over the program. -/
namespace Go.Sl
set_option linter.unusedSimpArgs false
set_option linter.unusedVariables false
open Go.RowKit
section
variable {P : Program} {lo : List Oper} {Q : Exit → Act → World → Prop}

/-- In every world of the class, whatever more is data by then, the operation calls a function that makes a datum. -/
def Makes (P : Program) (S : Snap) (M : List Chunk) (l : List Value) (o : Oper) (F : Snap → Value → Prop) : Prop :=
  ∀ S' w, S.Le S' → St S' M w → (∃ fn args, (execOp (evF l) o).run P w = .ok (.enter fn args) w ∧ Calls P fn args w (fun e w' => ∃ v S'', e = .returned v ∧ S'.Le S'' ∧ F S'' v ∧ St S'' M w')) ∨
    (∃ v w' S'', (execOp (evF l) o).run P w = .ok (.value v) w' ∧ S'.Le S'' ∧ F S'' v ∧ St S'' M w')
theorem Makes.mono {S S1 : Snap} {M : List Chunk} {l : List Value} {o : Oper} {F : Snap → Value → Prop} (h : Makes P S M l o F) (hS : S.Le S1) : Makes P S1 M l o F :=
  fun S' w h1 h2 => h S' w (hS.trans h1) h2

/-- Every order of the bag: what is ready is in what is left of it. -/
def bagOk (lo : List Oper) : Nat → List Bool → List Nat → Bool
  | 0, _, ks => ks.isEmpty
  | f + 1, bs, ks => !(Region.ready .any lo.toArray bs.toArray).isEmpty && (Region.ready .any lo.toArray bs.toArray).all fun k => ks.contains k && bagOk lo f (bs.set k true) (ks.erase k)

/-- What is known of an operation of the bag. -/
structure BagOp (P : Program) (lo : List Oper) (S : Snap) (M : List Chunk) (l : List Value) (k : Nat) (d : Tmp) (F : Snap → Value → Prop) : Prop where
  ex : ∃ o, lo[k]? = some o ∧ o.dst = some d ∧ isSt o = false ∧ Region.wanted o (yielded lo.toArray l.toArray) = true ∧ Makes P S M l o F

abbrev BagT := Nat × Tmp × (Snap → Value → Prop)
def bagSet (bag : List BagT) (vs : Nat → Value) (l : List Value) : List Value := bag.foldl (fun l b => l.set b.2.1 (vs b.1)) l
def bagMark (bag : List BagT) (bs : List Bool) : List Bool := bag.foldl (fun bs b => bs.set b.1 true) bs
theorem bagSet_cons (b : BagT) (r : List BagT) (vs : Nat → Value) (l : List Value) : bagSet (b :: r) vs l = bagSet r vs (l.set b.2.1 (vs b.1)) := rfl
theorem bagMark_cons (b : BagT) (r : List BagT) (bs : List Bool) : bagMark (b :: r) bs = bagMark r (bs.set b.1 true) := rfl
theorem set_comm' {α : Type} (l : List α) {i j : Nat} (h : i ≠ j) (x y : α) : (l.set i x).set j y = (l.set j y).set i x := List.set_comm x y h
theorem bagSet_set (r : List BagT) (vs : Nat → Value) : ∀ (l : List Value) (d : Nat) (v : Value), (∀ b ∈ r, b.2.1 ≠ d) → bagSet r vs (l.set d v) = (bagSet r vs l).set d v := by
  induction r with
  | nil => intros; rfl
  | cons b r ih =>
    intro l d v h
    rw [bagSet_cons, bagSet_cons, set_comm' l (fun e => h b (.head _) e.symm), ih _ _ _ fun c hc => h c (.tail _ hc)]
theorem bagMark_set (r : List BagT) : ∀ (bs : List Bool) (k : Nat), bagMark r (bs.set k true) = (bagMark r bs).set k true := by
  induction r with
  | nil => intros; rfl
  | cons b r ih =>
    intro bs k
    rw [bagMark_cons, bagMark_cons]
    by_cases e : k = b.1
    · rw [e, List.set_set, ih, List.set_set]
    · rw [set_comm' bs e, ih]

def bagApart (lo : List Oper) (ks : List Nat) : Bool := ks.all fun j => ks.all fun k => j == k || match lo[j]?, lo[k]? with | some a, some b => a.apart lo.toArray b | _, _ => false
theorem bagApart_spec {ks : List Nat} (h : bagApart lo ks = true) {j k : Nat} (hj : j ∈ ks) (hk : k ∈ ks) (hne : j ≠ k) {a b : Oper} (ha : lo[j]? = some a) (hb : lo[k]? = some b) : a.apart lo.toArray b = true := by
  have := List.all_eq_true.1 (List.all_eq_true.1 h j hj) k hk
  rw [ha, hb] at this
  simpa [hne] using this

theorem v_bag : ∀ (n : Nat) (bag : List BagT) {f : Nat} {S : Snap} {M : List Chunk} {bs : List Bool} {l : List Value} {D : List Deferred}, bag.length = n → bagOk lo n bs (bag.map (·.1)) = true → (bag.map (·.1)).Nodup → (bag.map (·.2.1)).Nodup → Region.noSelect lo.toArray = true → bagApart lo (bag.map (·.1)) = true →
    (∀ b ∈ bag, ∀ S S' v, S.Le S' → b.2.2 S v → b.2.2 S' v) → (∀ b ∈ bag, BagOp P lo S M l b.1 b.2.1 b.2.2) →
    (∀ S' vs, S.Le S' → (∀ b ∈ bag, b.2.2 S' (vs b.1)) → AnyV P lo Q f S' M (bagMark bag bs) (bagSet bag vs l) D) → AnyV P lo Q (f + n) S M bs l D := by
  intro n
  induction n with
  | zero =>
    intro bag f S M bs l D hn _ _ _ _ _ _ _ h
    obtain rfl := List.eq_nil_of_length_eq_zero hn
    exact h S (fun _ => undef) (Snap.Le.refl S) (by simp)
  | succ n ih =>
    intro bag f S M bs l D hn hok hnd hnd2 hsel hap hmono hop h
    rw [bagOk, Bool.and_eq_true] at hok
    obtain ⟨hready, hall⟩ := hok
    refine ⟨fun e => ?_, fun j hj w hst => ?_⟩
    · rw [e] at hready
      cases hready
    · have hallj0 := List.all_eq_true.1 hall j hj
      rw [Bool.and_eq_true] at hallj0
      have hallj := hallj0.2
      replace hj : j ∈ bag.map (·.1) := by simpa using hallj0.1
      obtain ⟨b, hb, rfl⟩ := List.mem_map.1 hj
      obtain ⟨r1, r2, rfl⟩ := List.append_of_mem hb
      obtain ⟨o, ho, hd, hns, hw, hmk⟩ := (hop b hb).ex
      have hmk0 := hmk S w (Snap.Le.refl S) hst
      have ho' : lo.toArray[b.1]? = some o := by simpa using ho
      have hk1 : b.1 ∉ r1.map (·.1) := by
        intro hm
        simp only [List.map_append, List.map_cons] at hnd
        exact (List.nodup_append.1 hnd).2.2 _ hm _ (.head _) rfl
      have her : ((r1 ++ b :: r2).map (·.1)).erase b.1 = (r1 ++ r2).map (·.1) := by
        rw [List.map_append, List.map_cons, List.erase_append_right _ hk1, List.erase_cons_head, List.map_append]
      suffices key : ∀ v S'' w'', S.Le S'' → b.2.2 S'' v → St S'' M w'' → ∃ S' M' l', ((∃ o, lo[b.1]? = some o ∧ isSt o = true) ∨ (S.Le S' ∧ Suf M M')) ∧ (⟨l.toArray, D⟩ : Act).put o.dst v = ⟨l'.toArray, D⟩ ∧ St S' M' w'' ∧ AnyV P lo Q (f + n) S' M' (bs.set b.1 true) l' D by
        unfold wpOp
        simp only [ho', hw, if_true]
        refine .inl ?_
        unfold Oper.wp
        rcases hmk0 with ⟨fn, args, hrun, hcall⟩ | ⟨v, w', S'', hrun, h1, h2, h3⟩
        · rw [evF_eq, hrun]
          refine Calls.mono hcall fun e w'' he => ?_
          obtain ⟨v, S'', rfl, hS'', hF, hst''⟩ := he
          exact key v S'' w'' hS'' hF hst''
        · rw [evF_eq, hrun]
          exact key v S'' w' h1 h2 h3
      intro v S'' w'' hS'' hF hst''
      refine ⟨S'', M, l.set b.2.1 v, .inr ⟨hS'', Suf.refl M⟩, ?_, hst'', ?_⟩
      · show (⟨l.toArray, D⟩ : Act).put o.dst v = _
        rw [hd, putD_put]
        rfl
      · have hsub : ∀ c ∈ r1 ++ r2, c ∈ r1 ++ b :: r2 := fun c hc => by
          rcases List.mem_append.1 hc with h | h
          · exact List.mem_append_left _ h
          · exact List.mem_append_right _ (.tail _ h)
        have hne : ∀ c ∈ r1 ++ r2, c.1 ≠ b.1 := fun c hc e => by
          simp only [List.map_append, List.map_cons] at hnd
          rcases List.mem_append.1 hc with h | h
          · exact hk1 (e ▸ List.mem_map_of_mem h)
          · exact (List.nodup_cons.1 (List.nodup_append.1 hnd).2.1).1 (e ▸ List.mem_map_of_mem h)
        have hdne : ∀ c ∈ r1, c.2.1 ≠ b.2.1 := fun c hc e => by
          simp only [List.map_append, List.map_cons] at hnd2
          exact (List.nodup_append.1 hnd2).2.2 _ (List.mem_map_of_mem hc) _ (.head _) e
        refine ih (r1 ++ r2) ?_ ?_ ?_ ?_ hsel ?_ (fun c hc => hmono c (hsub c hc)) ?_ ?_
        · simp only [List.length_append, List.length_cons] at hn ⊢; omega
        · rw [← her]; exact hallj
        · rw [← her]; exact hnd.erase _
        · simp only [List.map_append, List.map_cons] at hnd2 ⊢
          obtain ⟨a1, a2, a3⟩ := List.nodup_append.1 hnd2
          exact List.nodup_append.2 ⟨a1, (List.nodup_cons.1 a2).2, fun x hx y hy => a3 x hx y (.tail _ hy)⟩
        · refine List.all_eq_true.2 fun x hx => List.all_eq_true.2 fun y hy => ?_
          rw [← her] at hx hy
          exact List.all_eq_true.1 (List.all_eq_true.1 hap x (List.mem_of_mem_erase hx)) y (List.mem_of_mem_erase hy)
        · intro c hc
          obtain ⟨oc, hoc, hcd, hcns, hcw, hcm⟩ := (hop c (hsub c hc)).ex
          have hapb := bagApart_spec hap (List.mem_map_of_mem hb) (List.mem_map_of_mem (hsub c hc)) (fun e => hne c hc e.symm) ho hoc
          have h1 := (Oper.apart_spec hapb).1
          have hoc' : lo.toArray[c.1]? = some oc := by simpa using hoc
          have e1 : execOp (evF (l.set b.2.1 v)) oc = execOp (evF l) oc := by
            have := execOp_put oc (fun cs x => Region.noSelect_spec hsel c.1 oc cs x hoc') ⟨l.toArray, D⟩ o.dst v h1
            rw [hd, putD_put] at this
            rwa [evF_eq, evF_eq] at this
          have e2 : Region.wanted oc (yielded lo.toArray (l.set b.2.1 v).toArray) = Region.wanted oc (yielded lo.toArray l.toArray) := by
            have := wanted_put (ops := lo.toArray) oc ⟨l.toArray, D⟩ o.dst v h1
            rw [hd, putD_put] at this
            exact this
          refine ⟨⟨oc, hoc, hcd, hcns, e2.trans hcw, fun S' w h1 h2 => ?_⟩⟩
          rw [e1]
          exact hcm S' w (hS''.trans h1) h2
        · intro S' vs hS' hvs
          have hv2 := h S' (fun k => if k = b.1 then v else vs k) (hS''.trans hS') (fun c hc => by
            by_cases e : c.1 = b.1
            · have : c = b := by
                rcases List.mem_append.1 hc with h | h
                · exact absurd e (hne c (List.mem_append_left _ h))
                · rcases List.mem_cons.1 h with rfl | h
                  · rfl
                  · exact absurd e (hne c (List.mem_append_right _ h))
              subst this
              simp only [if_true]
              exact hmono c hc _ _ _ hS' hF
            · simp only [if_neg e]
              rcases List.mem_append.1 hc with h | h
              · exact hvs c (List.mem_append_left _ h)
              · rcases List.mem_cons.1 h with rfl | h
                · exact absurd rfl e
                · exact hvs c (List.mem_append_right _ h))
          have same : ∀ (r : List BagT) (l : List Value), (∀ c ∈ r, c.1 ≠ b.1) → bagSet r (fun k => if k = b.1 then v else vs k) l = bagSet r vs l := by
            intro r
            induction r with
            | nil => intros; rfl
            | cons c r ih =>
              intro l hc
              rw [bagSet_cons, bagSet_cons, if_neg (hc c (.head _)), ih _ fun d hd => hc d (.tail _ hd)]
          have es : bagSet (r1 ++ b :: r2) (fun k => if k = b.1 then v else vs k) l = bagSet (r1 ++ r2) vs (l.set b.2.1 v) := by
            rw [bagSet, List.foldl_append, List.foldl_cons, if_pos rfl]
            show bagSet r2 (fun k => if k = b.1 then v else vs k) ((bagSet r1 (fun k => if k = b.1 then v else vs k) l).set b.2.1 v) = _
            rw [same r1 l fun c hc => hne c (List.mem_append_left _ hc), same r2 _ fun c hc => hne c (List.mem_append_right _ hc), ← bagSet_set r1 vs l b.2.1 v hdne]
            rw [bagSet, bagSet, bagSet, List.foldl_append]
          have em : bagMark (r1 ++ b :: r2) bs = bagMark (r1 ++ r2) (bs.set b.1 true) := by
            rw [bagMark, List.foldl_append, List.foldl_cons]
            show bagMark r2 ((bagMark r1 bs).set b.1 true) = _
            rw [← bagMark_set r1 bs b.1, bagMark, bagMark, bagMark, List.foldl_append]
          rw [es, em] at hv2
          exact hv2

/-- A byte sequence as data. -/
abbrev isB (x : List UInt8) : Snap → Value → Prop := fun S v => RSl S v x ∧ v.oneCell' = true
theorem isB_mono {x : List UInt8} {S S' : Snap} {v : Value} (hS : S.Le S') (h : isB x S v) : isB x S' v := ⟨h.1.mono hS, h.2⟩
variable {S : Snap} {M : List Chunk} {l : List Value}
/-- A call that makes a byte sequence. -/
theorem bag_call (k : Nat) {fn : FuncId} {xs : List Operand} {ats : Array TypeId} {args : List Value} {d : Tmp} {ty : TypeId} {pos : String} {af : Array Edge} {g : Option (Nat × Bool)} {x : List UInt8}
    (ho : lo[k]? = some ⟨some d, .call { callee := .value (.func fn), args := xs.toArray, argTypes := ats }, ty, pos, af, g⟩) (hw : Region.wanted ⟨some d, .call { callee := .value (.func fn), args := xs.toArray, argTypes := ats }, ty, pos, af, g⟩ (yielded lo.toArray l.toArray) = true)
    (c : ∀ S' w, S.Le S' → St S' M w → Rets P fn args w fun v w' => ∃ S'', S'.Le S'' ∧ RSl S'' v x ∧ v.oneCell' = true ∧ St S'' M w') (hb : Body P fn) (ha : xs.map (evF l) = args) : BagOp P lo S M l k d (isB x) := by
  refine ⟨⟨_, ho, rfl, rfl, hw, fun S' w hS hst => .inl ⟨fn, args.toArray, ?_, ?_⟩⟩⟩
  · subst ha
    have := hb.enter (w := w) (xs.map (evF l)).toArray
    simp only [execOp, resolve, Deferred.ofValue, evF, Sem.run_bind, Sem.run_pure, Result.andThen_ok, invoke]
    simpa using this
  · exact Calls.mono (c S' w hS hst) fun e w' ⟨v, he, S'', h1, h2, h3, h4⟩ => ⟨v, S'', he, h1, ⟨h2, h3⟩, h4⟩
end
end Go.Sl

/- A bag of calls and literals that make data, in a form that our marks print. General over the program. -/
namespace Go.Sl
set_option linter.unusedSimpArgs false
set_option linter.unusedVariables false
open Go.RowKit
section
variable {P : Program} {lo : List Oper} {Q : Exit → Act → World → Prop} {S : Snap} {M : List Chunk} {l : List Value}
theorem Sls.mono {S S' : Snap} (hS : S.Le S') {vs : List Value} {xs : List (List UInt8)} (h : Sls S vs xs) : Sls S' vs xs := by
  induction h with
  | nil => exact .nil
  | cons h _ ih => exact .cons (h.mono hS) ih
/-- A list of byte sequences as data. -/
abbrev isP (xs : List (List UInt8)) : Snap → Value → Prop := fun S v => RSl S v xs ∧ v.oneCell' = true
theorem isP_mono {x : List (List UInt8)} {S S' : Snap} {v : Value} (hS : S.Le S') (h : isP x S v) : isP x S' v := ⟨h.1.mono hS, h.2⟩

theorem run_lit {w : World} {T E : TypeId} {n : Nat} {parts : Array (Nat × Operand)} {agg : Bool} {z : Nat} {zero : List Value} {bb : Nat} {vs cs : List Value} {d : Option Tmp} {ty : TypeId} {pos : String} {af : Array Edge} {g : Option (Nat × Bool)} (hst : St S M w) (hT : SlT P T E) (hE : Ty P E agg z zero bb)
    (hp : parts.toList.map (fun p => (p.1, evF l p.2)) = (vs.zipIdx.map fun p => (p.2, p.1))) (hn : vs.length = n) (hv : ∀ v ∈ vs, v.cells.size = z) (hc : (vs.map (·.cells.toList)).flatten = cs) (hs : n * z ≤ 16777216) (hz : 0 < z) :
    ∃ v w', (execOp (evF l) ⟨d, .buildSlice T n parts, ty, pos, af, g⟩).run P w = .ok (.value v) w' ∧ St S (.sl v E z n cs :: M) w' := by
  subst hc
  have hlen : (vs.map (·.cells.toList)).flatten.length = n * z := by
    rw [← hn]
    clear hp hn hs
    induction vs with
    | nil => simp
    | cons v r ih => simp [ih (fun u hu => hv u (.tail _ hu)), hv v (.head _), Nat.succ_mul, Nat.add_comm]
  refine ⟨.slice (some ⟨w.heap.size, 0, none⟩) n n, w.alloc (.cells (vs.map (·.cells.toList)).flatten.toArray E), ?_, (hst.alloc_sl (fz := (0, 0)) hlen (fun j _ => by simp) (Nat.le_refl _) ?_ (by simpa using Nat.le_of_eq hlen.symm) ?_)⟩
  · have hfill := fun q : Array Value => fill_all (z := z) vs 0 ((Array.range (n * z)).map (q[· % q.size]!)).toList hv (by simp [hn])
    simp only [Nat.zero_mul, List.take_zero, List.nil_append, Array.toArray_toList] at hfill
    have hparts : (parts.map fun (i, x) => (i, evF l x)).toList = (vs.zipIdx.map fun p => (p.2, p.1)) := by
      rw [← hp]; simp
    have h24 : ¬ (n * z > 2 ^ 24) := by omega
    simp only [execOp, Instr.buildSlice, Sem.run_bind, run_underlying hT.u, Result.andThen_ok, hE.run_sizeOf, h24, if_false, Sem.run_pure, hparts]
    by_cases h0 : n * z = 0
    · have hq := hfill #[]
      simp only [h0] at hq
      simp only [h0, if_true, Sem.run_pure, Result.andThen_ok, hq, Sem.run_bind]
      rfl
    · have hq := hfill (vOf agg zero).cells
      simp only [h0, if_false, Sem.run_bind, hE.run_zero, Sem.run_pure, Result.andThen_ok, hq]
      rfl
  · have := Nat.le_mul_of_pos_right n hz
    simp only [maxLen]; omega
  · show List.take (n * z) (List.toArray _).toList = _
    rw [List.toList_toArray, List.take_of_length_le (by rw [hlen]; exact Nat.le_refl _)]

/-- A literal of byte slices. -/
theorem bag_parts (k : Nat) {T E : TypeId} {n : Nat} {parts : Array (Nat × Operand)} {zero : List Value} {bb : Nat} {vs : List Value} {xs : List (List UInt8)} {d : Tmp} {ty : TypeId} {pos : String} {af : Array Edge} {g : Option (Nat × Bool)}
    (ho : lo[k]? = some ⟨some d, .buildSlice T n parts, ty, pos, af, g⟩) (hw : Region.wanted ⟨some d, .buildSlice T n parts, ty, pos, af, g⟩ (yielded lo.toArray l.toArray) = true) (hs : Sls S vs xs) (hT : SlT P T E) (hE : Ty P E false 1 zero bb)
    (hp : parts.toList.map (fun p => (p.1, evF l p.2)) = (vs.zipIdx.map fun p => (p.2, p.1))) (hn : vs.length = n) (hb : n ≤ 1000) : BagOp P lo S M l k d (isP xs) := by
  refine ⟨⟨_, ho, rfl, rfl, hw, fun S' w hS hst => .inr ?_⟩⟩
  obtain ⟨h1, h2, h3⟩ := (hs.mono hS).rl
  have hfl : (vs.map (·.cells.toList)).flatten = vs := by
    clear hs h1 h2 hp hn
    induction vs with
    | nil => rfl
    | cons v r ih => rw [List.map_cons, List.flatten_cons, ih (fun u hu => h3 u (.tail _ hu)), cells_one (h3 v (.head _))]; rfl
  obtain ⟨v, w', hr, hst'⟩ := run_lit (d := some d) (ty := ty) (pos := pos) (af := af) (g := g) hst hT hE hp hn (fun v hv => cells_size1 (h3 v hv)) hfl (by omega) (by omega)
  obtain ⟨S'', a, b, c⟩ := St.freeze (α := List UInt8) (T := E) (xs := xs) hst' h1 (by omega)
  exact ⟨v, w', S'', hr, a, ⟨c, c.oneCell⟩, b⟩

def BagMono : List BagT → Prop
  | [] => True
  | b :: r => (∀ S S' v, S.Le S' → b.2.2 S v → b.2.2 S' v) ∧ BagMono r
def BagOps (P : Program) (lo : List Oper) (S : Snap) (M : List Chunk) (l : List Value) : List BagT → Prop
  | [] => True
  | b :: r => BagOp P lo S M l b.1 b.2.1 b.2.2 ∧ BagOps P lo S M l r
def BagFacts (S : Snap) (vs : Nat → Value) : List BagT → Prop
  | [] => True
  | b :: r => b.2.2 S (vs b.1) ∧ BagFacts S vs r
theorem BagMono.all : ∀ {bag : List BagT}, BagMono bag → ∀ b ∈ bag, ∀ S S' v, S.Le S' → b.2.2 S v → b.2.2 S' v
  | _ :: _, h, _, .head _ => h.1
  | _ :: _, h, _, .tail _ hb => BagMono.all h.2 _ hb
theorem BagOps.all : ∀ {bag : List BagT}, BagOps P lo S M l bag → ∀ b ∈ bag, BagOp P lo S M l b.1 b.2.1 b.2.2
  | _ :: _, h, _, .head _ => h.1
  | _ :: _, h, _, .tail _ hb => BagOps.all h.2 _ hb
theorem BagFacts.mk : ∀ {bag : List BagT} {S : Snap} {vs : Nat → Value}, (∀ b ∈ bag, b.2.2 S (vs b.1)) → BagFacts S vs bag
  | [], _, _, _ => trivial
  | b :: _, _, _, h => ⟨h b (.head _), BagFacts.mk fun c hc => h c (.tail _ hc)⟩
theorem v_bag' (n : Nat) (bag : List BagT) {f : Nat} {bs : List Bool} {D : List Deferred} (hn : bag.length = n) (hok : bagOk lo n bs (bag.map (·.1)) = true) (h1 : (bag.map (·.1)).Nodup) (h2 : (bag.map (·.2.1)).Nodup) (hsel : Region.noSelect lo.toArray = true) (hap : bagApart lo (bag.map (·.1)) = true)
    (hm : BagMono bag) (ho : BagOps P lo S M l bag) (h : ∀ S' vs, S.Le S' → BagFacts S' vs bag → AnyV P lo Q f S' M (bagMark bag bs) (bagSet bag vs l) D) : AnyV P lo Q (f + n) S M bs l D :=
  v_bag n bag hn hok h1 h2 hsel hap hm.all ho.all fun S' vs hS hf => h S' vs hS (BagFacts.mk hf)
end
end Go.Sl

/- Fields of own boxes stored, what they hold not flat. General over the program. -/
namespace Go.Sl
set_option linter.unusedSimpArgs false
set_option linter.unusedVariables false
open Go.RowKit
section
variable {P : Program} {S : Snap} {M : List Chunk} {l : List Value} {α β : Type} [Rep α] [Rep β] {ops : Array Oper} {rest : List Oper} {Q : Exit → Act → World → Prop} {D : List Deferred} {w : World} {ty : TypeId} {pos : String} {af : Array Edge} {d : Tmp}
/-- A field of an own box stored. -/
theorem s_stP {T B : TypeId} {x y : Operand} {agg : Bool} {zero : List Value} {bb b off off' : Nat} (kf : Nat) {k : Nat} {get : α → β} {put : α → β → α} {x0 : α} {y0 : β} {c cs : List Value} (hst : St S M w) (hx : evF l x = .pointer (some ⟨b, off, none⟩)) (hk : M[k]? = some (.box b c B))
    (i : HasF α kf β off' get put) (ho : off = off') (h0 : Rep.R S c x0) (hT : Ty P T agg (Rep.z β) zero bb) (hy : evF l y = vOf agg cs) (hR : Rep.R S cs y0) (ha : agg = false → Rep.z β = 1)
    (h : ∀ w' c', Rep.R S c' (put x0 y0) → St S (M.set k (.box b c' B)) w' → wpList P ops Q rest ⟨l.toArray, D⟩ w') :
    wpList P ops Q (⟨none, .store T x y, ty, pos, af, none⟩ :: rest) ⟨l.toArray, D⟩ w := by
  subst ho
  have hl := Rep.len hR
  have hb := i.le
  have hl0 := Rep.len h0
  have h1 : cs.all (·.oneCell') = true := List.all_eq_true.2 (Rep.one hR)
  have hw := i.wr h0 hR
  have hc : (vOf agg cs).cells.toList = cs := by
    cases agg with
    | true => rfl
    | false =>
      have : cs.length = 1 := by rw [hl, ha rfl]
      obtain ⟨v, rfl⟩ := List.length_eq_one_iff.1 this
      have hv : v.oneCell' = true := Rep.one hR v (by simp)
      exact cells_one hv
  refine s_store hst hx k hk hT hy (cs := cs) hc hl h1 (by omega) fun w' hst' => ?_
  exact h w' _ hw hst'
end
end Go.Sl

/- Own slices that hold data: elements read. General over the program. -/
namespace Go.Sl
set_option linter.unusedSimpArgs false
set_option linter.unusedVariables false
open Go.RowKit
section
variable {P : Program} {S : Snap} {M : List Chunk} {l : List Value} {α : Type} [Rep α]
theorem RL.at_len {c : List Value} {xs : List α} (h : RL S c xs) {j : Nat} (hl : j < xs.length) : j * Rep.z α + Rep.z α ≤ c.length := by
  rw [h.1]
  have := Nat.mul_le_mul_right (Rep.z α) (show j + 1 ≤ xs.length by omega)
  rw [Nat.succ_mul] at this
  exact this
theorem RL.at_some {c : List Value} {xs : List α} (h : RL S c xs) {j : Nat} {y : α} (hy : xs[j]? = some y) : j * Rep.z α + Rep.z α ≤ c.length := h.at_len (List.getElem?_eq_some_iff.1 hy).1
/-- An element of an own slice of data. -/
theorem qt_ldR {T F : TypeId} {x : Operand} {agg : Bool} {zero : List Value} {bb : Nat} {v p : Value} {j k n : Nat} {c : List Value} {xs : List α} {y : α} (hx : evF l x = p) (hp : PtO v p (j * Rep.z α)) (hk : M[k]? = some (.sl v F (Rep.z α) n c)) (hR : RL S c xs)
    (hT : Ty P T agg (Rep.z α) zero bb) (hy : xs[j]? = some y) : ∃ u, (∃ cs, u = vOf agg cs ∧ Rep.R S cs y) ∧ Qt P l (.load T x) S M u :=
  ⟨_, ⟨_, rfl, hR.2 j _ hy⟩, qt_load_own hx hp hk hT rfl (hR.at_some hy)⟩
/-- An element of an own slice of data, flat. -/
theorem qt_ldRF {cells : α → List Value} {T F : TypeId} {x : Operand} {agg : Bool} {zero : List Value} {bb : Nat} {v p : Value} {j k n : Nat} {c : List Value} {xs : List α} {y : α} (hx : evF l x = p) (hp : PtO v p (j * Rep.z α)) (hk : M[k]? = some (.sl v F (Rep.z α) n c)) (hF : FlatC α cells) (hR : RL S c xs)
    (hT : Ty P T agg (Rep.z α) zero bb) (hy : xs[j]? = some y) : Qt P l (.load T x) S M (vOf agg (cells y)) :=
  qt_load_own hx hp hk hT (hF.flat (hR.2 j _ hy)) (hR.at_some hy)
theorem sl_onek {w : World} {v : Value} {T : TypeId} {k z n : Nat} {c : List Value} (h : St S M w) (hk : M[k]? = some (.sl v T z n c)) : v.oneCell' = true := by
  rcases (h.get hk).2 with ⟨rfl, _⟩ | ⟨g, cap, cur, fz, rfl, _⟩ <;> rfl
end
end Go.Sl

/- Strings compared. General over the program. -/
namespace Go.Sl
set_option linter.unusedSimpArgs false
set_option linter.unusedVariables false
open Go.RowKit
section
variable {P : Program} {S : Snap} {M : List Chunk} {l : List Value}
theorem str_beq (a b : List UInt8) : ((⟨a.toArray⟩ : ByteArray).toList == (⟨b.toArray⟩ : ByteArray).toList) = decide (a = b) := by
  rw [ByteArray.toList_eq, ByteArray.toList_eq]
  by_cases h : a = b
  · rw [decide_eq_true h, h]; exact beq_self_eq_true _
  · rw [decide_eq_false h]; exact beq_eq_false_iff_ne.2 h
theorem qt_eql_str {T U : TypeId} {x y : Operand} {a b : List UInt8} {c : Bool} (hx : evF l x = .string ⟨a.toArray⟩) (hy : evF l y = .string ⟨b.toArray⟩) (hT : StrT P T) (e : decide (a = b) = c) : Qt P l (.binOp .eql T x y U) S M (.bool c) := fun dst ty pos af w _ => by
  simp only [execOp, hx, hy, eqGuard_at_string, binOp_string_eql, str_beq, e]
  rfl
theorem qt_neq_str {T U : TypeId} {x y : Operand} {a b : List UInt8} {c : Bool} (hx : evF l x = .string ⟨a.toArray⟩) (hy : evF l y = .string ⟨b.toArray⟩) (hT : StrT P T) (e : decide (a = b) = c) : Qt P l (.binOp .neq T x y U) S M (.bool (!c)) := fun dst ty pos af w _ => by
  simp only [execOp, hx, hy, eqGuard_at_string, binOp_string_neq, str_beq, e]
  rfl
end
end Go.Sl

/- Fields of own boxes stored, flat, the place apart. General over the program. -/
namespace Go.Sl
set_option linter.unusedSimpArgs false
set_option linter.unusedVariables false
open Go.RowKit
section
variable {P : Program} {S : Snap} {M : List Chunk} {l : List Value} {α β : Type} [Rep α] [Rep β] {ops : Array Oper} {rest : List Oper} {Q : Exit → Act → World → Prop} {D : List Deferred} {w : World} {ty : TypeId} {pos : String} {af : Array Edge} {d : Tmp}
/-- A field of an own box stored, both flat. -/
theorem s_stFo {T B : TypeId} {x y : Operand} {agg : Bool} {zero : List Value} {bb b off off' : Nat} (kf : Nat) {k : Nat} {cells : α → List Value} {get : α → β} {put : α → β → α} {x0 : α} {y0 : β} {cs : List Value} (hst : St S M w) (hF : FlatC α cells) (hx : evF l x = .pointer (some ⟨b, off, none⟩)) (hk : M[k]? = some (.box b (cells x0) B))
    (i : HasF α kf β off' get put) (ho : off = off') (h0 : Rep.R S (cells x0) x0) (hT : Ty P T agg (Rep.z β) zero bb) (hy : evF l y = vOf agg cs) (hR : Rep.R S cs y0) (ha : agg = false → Rep.z β = 1)
    (h : ∀ w', Rep.R S (cells (put x0 y0)) (put x0 y0) → St S (M.set k (.box b (cells (put x0 y0)) B)) w' → wpList P ops Q rest ⟨l.toArray, D⟩ w') :
    wpList P ops Q (⟨none, .store T x y, ty, pos, af, none⟩ :: rest) ⟨l.toArray, D⟩ w := by
  subst ho
  exact s_stF hst hF hx hk i h0 hT hy hR ha h
end
end Go.Sl

/- A slice grown by zeros; an own slice cut short. General over the program. -/
namespace Go.Sl
set_option linter.unusedSimpArgs false
set_option linter.unusedVariables false
open Go.RowKit
variable {P : Program} {S : Snap} {M : List Chunk} {l : List Value} {ops : Array Oper} {rest : List Oper} {Q : Exit → Act → World → Prop} {D : List Deferred} {w : World} {ty : TypeId} {pos : String} {af : Array Edge} {d : Tmp}

theorem run_append_zeros {t tx ty e : TypeId} {i : TypeInfo} {z : Value} {k : IntKind} (w : World) (ht : P.underlying t = some (.slice e)) (hk : P.underlying tx = some (.int k)) (hi : P.info? e = some i) (hz : i.zero = some z) (hs : i.size = 1) (n : Nat) (h0 : 1 ≤ n) (hn : n ≤ 16777216) (hb : n * i.bytes ≤ 281474976710656) :
    (Builtin.append_ #[t, tx] ty #[.slice none 0 0, .int .i64 (n : Nat)]).run P w =
      .ok (.slice (some ⟨w.heap.size, 0, none⟩) n (grownCap w n 0 e)) (w.drew.alloc (.cells (Builtin.zeroCells z.cells n ++ Builtin.zeroCells z.cells (grownCap w n 0 e - n)) e)) := by
  have hw : IntKind.i64.wrap ((n : Nat) : Int) = (n : Int) := by
    simp only [IntKind.wrap, IntKind.bits, IntKind.signed]
    have : ((n : Int) % 2 ^ 64) = n := Int.emod_eq_of_lt (by omega) (by omega)
    simp [this]
    omega
  have h1 : ¬ (n = 0) := by omega
  have h63' : ¬ (9223372036854775807 < (n : Int)) := by omega
  have hb' : ¬ (281474976710656 < (n : Int) * (i.bytes : Int)) := by
    have : ((n * i.bytes : Nat) : Int) ≤ 281474976710656 := by omega
    rw [Int.natCast_mul] at this
    omega
  have h48' : ¬ (281474976710656 < Builtin.nextslicecap n 0 * i.bytes) := by rw [nextslicecap_zero h0]; omega
  simp [Builtin.append_, run_underlying ht, run_underlying hk, sizeOf, typeInfo, zeroValue, hi, hz, hs, hw, h1, hb', asInt, h63', h48', Question.forced, newRow, grownCap, Builtin.firstCells, show ¬ ((n : Int) < 0) by omega, asIntOf, intOf]

/-- 'append(nil, make([]E, n)...)'. -/
theorem s_zeros {x y : Operand} {t tx E : TypeId} {n : Nat} {zv : Value} {bb : Nat} {k : IntKind} (hst : St S M w) (hx : evF l x = .slice none 0 0) (hy : evF l y = .int .i64 (n : Nat)) (hT : SlT P t E) (hE : Ty P E false 1 [zv] bb) (hU : P.underlying tx = some (.int k)) (h0 : 1 ≤ n) (hn : n ≤ 16777216) (hb : bb ≤ 8)
    (h : ∀ v' w', (∃ ad cap, v' = .slice ad n cap) → St S (.sl v' E 1 n (List.replicate n zv) :: M) w' → wpList P ops Q rest ⟨(l.set d v').toArray, D⟩ w') :
    wpList P ops Q (⟨some d, .call { callee := .builtin .append, args := #[x, y], argTypes := #[t, tx] }, ty, pos, af, none⟩ :: rest) ⟨l.toArray, D⟩ w := by
  obtain ⟨i, hi, hiz, his, hib⟩ := hE.run_bytes
  have hcells := hE.cells_
  have hcl : (vOf false [zv]).cells = #[zv] := by
    have := congrArg List.toArray hcells
    simpa using this
  have hzc : ∀ q, Builtin.zeroCells (vOf false [zv]).cells q = (List.replicate q zv).toArray := by
    intro q
    rw [hcl]
    unfold Builtin.zeroCells
    apply Array.ext'
    simp [Nat.mod_one]
    apply List.ext_getElem
    · simp
    · intro j h1 h2
      simp
  have hbn : n * i.bytes ≤ 281474976710656 := by
    rw [hib]
    have := Nat.mul_le_mul hn hb
    omega
  have hr := run_append_zeros (P := P) (ty := ty) w hT.u hU hi hiz his n h0 hn hbn
  have hge := grownCap_ge w n 0 E
  have hcm := grownCap_le_maxLen w n 0 E (by simp only [maxLen]; omega)
  rw [hzc, hzc] at hr
  have hal := (St.drew hst).alloc_sl (n := n) (cap := grownCap w n 0 E) (z := 1) (c := List.replicate n zv) (T := E) (fz := (0, 0)) (cur := (List.replicate n zv).toArray ++ (List.replicate (grownCap w n 0 E - n) zv).toArray) (by simp) (fun j _ => by simp) hge hcm (by simp; omega) (by simp)
  have hdw : w.drew.heap.size = w.heap.size := rfl
  rw [hdw] at hal
  generalize w.drew.alloc (Obj.cells ((List.replicate n zv).toArray ++ (List.replicate (grownCap w n 0 E - n) zv).toArray) E) = W at hr hal
  refine step_value (w' := W) ?_ (h _ _ ⟨_, _, rfl⟩ hal)
  simp [execOp, resolve, invoke, builtin, hx, hy, hr]

/-- 'x[:m]' of an own slice. -/
theorem s_slice_own {T E F : TypeId} {x y : Operand} {agg : Bool} {z n m : Nat} {zero c : List Value} {bb k : Nat} {v : Value} {kk : IntKind} (hst : St S (.sl v F z n c :: M) w) (hx : evF l x = v) (hy : evF l y = .int kk (m : Nat)) (hT : SlT P T E) (hE : Ty P E agg z zero bb) (hm : m ≤ n) (hv : ∃ ad cap, v = .slice ad n cap)
    (h : ∀ v', St S (.sl v' F z m (c.take (m * z)) :: M) w → wpList P ops Q rest ⟨(l.set d v').toArray, D⟩ w) :
    wpList P ops Q (⟨some d, .slice T x none (some y) none, ty, pos, af, none⟩ :: rest) ⟨l.toArray, D⟩ w := by
  obtain ⟨ad, cap, rfl⟩ := hv
  have h0 := hst.at_ _ (.head _)
  have hap := List.pairwise_cons.1 hst.apart
  have hrun : n ≤ cap → (execOp (evF l) ⟨some d, .slice T x none (some y) none, ty, pos, af, none⟩).run P w = .ok (.value (.slice ad m cap)) w := by
    intro hc
    simp only [execOp, hx, Sem.run_bind]
    have := run_sliceAt (w := w) (hi := some (.int kk (m : Nat))) (mx := none) (lo := none) (ad := ad) (len := n) (cap := cap) (a := 0) (b := m) (m := cap) hT hE (.inl ⟨rfl, rfl⟩) (.inr ⟨kk, rfl⟩) (.inl ⟨rfl, rfl⟩) (Nat.zero_le _) (by omega) (Nat.le_refl _) (by simp)
    simp only [Option.map_none, Option.map_some, hy]
    rw [this]
    simp only [Sem.run_pure, Nat.sub_zero, Nat.zero_mul]
    cases ad with
    | none => split <;> rfl
    | some a =>
      split
      · rfl
      · simp [Addr.add]
  rcases h0.2 with ⟨e, hn⟩ | ⟨g, cap', cur, fz, e, hg, hfz, hnc, hcm, hcs, htk⟩
  · obtain ⟨rfl, rfl, rfl⟩ : ad = none ∧ n = 0 ∧ cap = 0 := by simpa using e
    obtain rfl : m = 0 := by omega
    refine step_value (w' := w) (hrun (Nat.zero_le _)) (h _ ?_)
    have hc0 : c = [] := List.eq_nil_of_length_eq_zero (by simpa using h0.1)
    subst hc0
    simpa using hst
  · obtain ⟨rfl, rfl⟩ : ad = some ⟨g, 0, none⟩ ∧ cap = cap' := by simpa using e
    refine step_value (w' := w) (hrun hnc) (h _ ?_)
    refine ⟨hst.os, hst.tape, hst.output, hst.has, fun q hq => ?_, fun q hq b hb => ?_, List.pairwise_cons.2 ⟨fun q hq b hb => ?_, hap.2⟩⟩
    · rcases List.mem_cons.1 hq with rfl | hq
      · refine ⟨?_, .inr ⟨g, cap, cur, fz, rfl, hg, hfz, by omega, hcm, hcs, ?_⟩⟩
        · rw [List.length_take, h0.1]
          exact Nat.min_eq_left (Nat.mul_le_mul_right _ hm)
        · rw [← htk, List.take_take, Nat.min_eq_left (Nat.mul_le_mul_right _ hm)]
      · exact hst.at_ q (.tail _ hq)
    · rcases List.mem_cons.1 hq with rfl | hq
      · exact hst.out _ (.head _) b (by simpa [Chunk.own, Value.ownBlock] using hb)
      · exact hst.out q (.tail _ hq) b hb
    · exact hap.1 q hq b (by simpa [Chunk.own, Value.ownBlock] using hb)
/-- 'x[:m]' of an own slice anywhere. -/
theorem s_slice_ownk {T E F : TypeId} {x y : Operand} {agg : Bool} {z n m : Nat} {zero c : List Value} {bb k : Nat} {v : Value} {kk : IntKind} (hst : St S M w) (hk : M[k]? = some (.sl v F z n c)) (hx : evF l x = v) (hy : evF l y = .int kk (m : Nat)) (hT : SlT P T E) (hE : Ty P E agg z zero bb) (hm : m ≤ n) (hv : ∃ ad cap, v = .slice ad n cap)
    (h : ∀ v', St S (M.set k (.sl v' F z m (c.take (m * z)))) w → wpList P ops Q rest ⟨(l.set d v').toArray, D⟩ w) :
    wpList P ops Q (⟨some d, .slice T x none (some y) none, ty, pos, af, none⟩ :: rest) ⟨l.toArray, D⟩ w :=
  s_slice_own (k := k) (hst.move hk) hx hy hT hE hm hv fun v' h' => h v' (St.back hk h')
theorem sl_formk {v : Value} {T : TypeId} {z n k : Nat} {c : List Value} (h : St S M w) (hk : M[k]? = some (.sl v T z n c)) : ∃ ad cap, v = .slice ad n cap := by
  rcases (h.get hk).2 with ⟨rfl, rfl⟩ | ⟨g, cap, cur, fz, rfl, _⟩
  · exact ⟨_, _, rfl⟩
  · exact ⟨_, _, rfl⟩
end Go.Sl

/- Calls that panic. General over the program. -/
namespace Go.Sl
set_option linter.unusedSimpArgs false
set_option linter.unusedVariables false
open Go.RowKit
variable {P : Program}

/-- The call panics; 'post' of the world behind it. -/
def Pans (P : Program) (f : FuncId) (args : List Value) (w : World) (ch : List PanicEntry) (post : World → Prop) : Prop :=
  Calls P f args.toArray w fun e w' => e = .panicked ch ∧ post w'

section
variable {ops : Array Oper} {rest : List Oper} {Q : Exit → Act → World → Prop} {l : List Value} {D : List Deferred} {w : World} {ty : TypeId} {pos : String} {af : Array Edge}

theorem Pans.mono {f : FuncId} {args : List Value} {ch : List PanicEntry} {post post' : World → Prop} (h : Pans P f args w ch post) (hp : ∀ w', post w' → post' w') : Pans P f args w ch post' :=
  Calls.mono h fun _ w' ⟨e, p⟩ => ⟨e, hp w' p⟩

theorem step_enterP {o : Oper} (hg : o.guard = none) {f : FuncId} {args : List Value} {ch : List PanicEntry} {post : World → Prop} (hr : (execOp (evF l) o).run P w = .ok (.enter f args.toArray) w)
    (c : Pans P f args w ch post) (h : ∀ w', post w' → Q (.panic ch) ⟨l.toArray, D⟩ w') : wpList P ops Q (o :: rest) ⟨l.toArray, D⟩ w := by
  refine wpList_plain hg fun K _ => ?_
  unfold Oper.wp
  rw [evF_eq, hr]
  refine Calls.mono c fun e w' ⟨he, hp⟩ => ?_
  subst he
  exact h w' hp

/-- A call of a function that is named. -/
theorem s_callP {f : FuncId} {xs : List Operand} {ats : Array TypeId} {args : List Value} {dd : Option Tmp} {ch : List PanicEntry} {post : World → Prop} (c : Pans P f args w ch post) (hb : Body P f) (ha : xs.map (evF l) = args)
    (h : ∀ w', post w' → Q (.panic ch) ⟨l.toArray, D⟩ w') :
    wpList P ops Q (⟨dd, .call { callee := .value (.func f), args := xs.toArray, argTypes := ats }, ty, pos, af, none⟩ :: rest) ⟨l.toArray, D⟩ w := by
  refine step_enterP rfl ?_ c h
  subst ha
  have := hb.enter (w := w) (xs.map (evF l)).toArray
  simp only [execOp, resolve, Deferred.ofValue, evF, Sem.run_bind, Sem.run_pure, Result.andThen_ok, invoke]
  simpa using this

/-- A call of a function value. -/
theorem s_callvP {f : FuncId} {x : Operand} {xs : List Operand} {ats : Array TypeId} {args args' : List Value} {fi ca : List Value} {dd : Option Tmp} {ch : List PanicEntry} {post : World → Prop} (c : Pans P f args' w ch post) (hx : evF l x = .func (.func f) fi.toArray ca.toArray) (hb : Body P f) (ha : xs.map (evF l) = args)
    (hargs : fi ++ args ++ ca = args') (h : ∀ w', post w' → Q (.panic ch) ⟨l.toArray, D⟩ w') :
    wpList P ops Q (⟨dd, .call { callee := .value x, args := xs.toArray, argTypes := ats }, ty, pos, af, none⟩ :: rest) ⟨l.toArray, D⟩ w := by
  refine step_enterP rfl ?_ c h
  subst ha; subst hargs
  have := hb.enter (w := w) (fi ++ xs.map (evF l) ++ ca).toArray
  simp only [execOp, resolve, hx, Deferred.ofValue, Sem.run_bind, Sem.run_pure, Result.andThen_ok, invoke]
  simpa using this

theorem s_panic {x : Operand} {T : TypeId} {v : Value} (hx : evF l x = .iface T v) (h : Q (.panic [{ v := .iface T v, recovered := false }]) ⟨l.toArray, D⟩ w) :
    wpList P ops Q (⟨none, .panic x, ty, pos, af, none⟩ :: rest) ⟨l.toArray, D⟩ w := by
  refine wpList_plain rfl fun K _ => ?_
  unfold Oper.wp
  rw [evF_eq]
  have hr : (execOp (evF l) ⟨none, .panic x, ty, pos, af, none⟩).run P w = .halt (.panic (.iface T v)) w := by
    simp only [execOp, hx, Sem.run_bind, run_panic_iface]
    rfl
  rw [hr]
  exact h

/-- A pointer into an own slice is not nil. -/
theorem s_nilO {d : Tmp} {x : Operand} {v p : Value} {o : Nat} (hx : evF l x = p) (hp : PtO v p o) (h : wpList P ops Q rest ⟨(l.set d p).toArray, D⟩ w) :
    wpList P ops Q (⟨some d, .nilCheck x, ty, pos, af, none⟩ :: rest) ⟨l.toArray, D⟩ w := by
  obtain ⟨g, n, cap, rfl, rfl⟩ := hp
  refine step_value (w' := w) ?_ h
  simp [execOp, hx]

theorem panic_end {fn : Func} {ch : List PanicEntry} {post : World → Prop} {a : Act} (ha : a.defers = []) (h : post w) : bodyPost P fn (fun e w' => e = .panicked ch ∧ post w') (.panic ch) a w := ⟨ha, rfl, h⟩
end
theorem dtX {ok : Bool} (h : ok = true := by first | rfl | assumption | exact decide_eq_true (by omega)) : ok = true := h
theorem dfX {ok : Bool} (h : ok = false := by first | rfl | assumption | exact decide_eq_false (by omega)) : ok = false := h
end Go.Sl

/- Regions that draw their order and may panic: what does not look at memory is taken first, the rest comes in any order. General over the program. -/
namespace Go.Sl
set_option linter.unusedSimpArgs false
set_option linter.unusedVariables false
open Go.RowKit
section
variable {P : Program} {lo : List Oper} {Q : Exit → Act → World → Prop} {K : Act → World → Prop} {S : Snap} {M : List Chunk} {l : List Value} {D : List Deferred} {w : World} {bs : List Bool} {f : Nat} {o : Oper} {v : Value}

/-- At a panic the temporaries do not matter. -/
def PanicQ (Q : Exit → Act → World → Prop) : Prop := ∀ c (a : Act) d v w, Q (.panic c) (a.put d v) w → Q (.panic c) a w
theorem put_defers (a : Act) (d : Option Tmp) (v : Value) : (a.put d v).defers = a.defers := by cases d <;> rfl
theorem panicQ_body {fn : Func} {R : Ending → World → Prop} : PanicQ (bodyPost P fn R) := fun c a d v w h => ⟨by rw [← put_defers a d v]; exact h.1, h.2⟩
theorem panicQ_then {K : Act → World → Prop} (h : PanicQ Q) : PanicQ (Exit.then K Q) := fun c a d v w k => h c a d v w k
theorem panicQ_block {id : Nat} (h : PanicQ Q) : PanicQ (Exit.inBlock id Q) := fun c a d v w k => h c a d v w k

abbrev AnyP (P : Program) (lo : List Oper) (Q : Exit → Act → World → Prop) (f : Nat) (bs : List Bool) (l : List Value) (D : List Deferred) (w : World) : Prop :=
  wpAnyH P .any lo.toArray Q (fun _ => True) f bs.toArray ⟨l.toArray, D⟩ w

theorem p_begin {id : Nat} (hst : St S M w) (hm : P.follows .mixedOrders = true) (h : ∀ w', St S M w' → AnyP P lo Q lo.length (List.replicate lo.length false) l D w') : (Code.region id lo.toArray true).wp P Q ⟨l.toArray, D⟩ w := by
  refine wp_region_held (S := fun _ => True) hm ?_
  have := h _ hst.drew
  simpa [AnyP] using this

theorem p_take (k : Nat) (hQ : PanicQ Q) (ho : lo[k]? = some o) (hs : Region.noSelect lo.toArray = true) (hf : Region.free .any lo.toArray bs.toArray k = true) (hr : (Region.ready .any lo.toArray bs.toArray).contains k = true)
    (hw : Region.wanted o (yielded lo.toArray l.toArray) = true) (hq : ∀ S M, Qt P l o.op S M v) (h : AnyP P lo Q f (bs.set k true) (putD l o.dst v) D w) : AnyP P lo Q (f + 1) bs l D w := by
  refine wpAnyH_take (i := k) (by simpa using ho) hs hf hr (fun c a w h => hQ c a _ _ w h) (.inl ⟨hw, fun w' _ => by rw [evF_eq]; exact hq (snapOf w') [] o.dst o.type o.pos o.after w' (St.start w')⟩) trivial ?_
  have e1 : bs.toArray.setIfInBounds k true = (bs.set k true).toArray := by simp
  have e2 : (⟨l.toArray, D⟩ : Act).put o.dst v = ⟨(putD l o.dst v).toArray, D⟩ := by cases o.dst <;> simp [Act.put, putD]
  rw [e1, e2]
  exact h

def RestP (P : Program) (lo : List Oper) (Q : Exit → Act → World → Prop) (f : Nat) (bs : List Bool) (K : Act → World → Prop) : Prop :=
  ∀ l D w, AnyP P lo Q f bs l D w → K ⟨l.toArray, D⟩ w
theorem p_core {k : Nat} (ho : lo[k]? = some o) (h : ∀ K, RestP P lo Q f (bs.set k true) K → wpList P lo.toArray (Exit.then K Q) [o] ⟨l.toArray, D⟩ w) :
    wpOp P lo.toArray Q k (fun a' w' => True ∧ wpAnyH P .any lo.toArray Q (fun _ => True) f (bs.toArray.setIfInBounds k true) a' w') ⟨l.toArray, D⟩ w := by
  refine wpOp_of_list (by simpa using ho) (h _ fun l D w hA => ⟨trivial, ?_⟩)
  have e1 : bs.toArray.setIfInBounds k true = (bs.set k true).toArray := by simp
  rw [e1]
  exact hA
theorem p_one (k : Nat) (ho : lo[k]? = some o) (hr : Region.ready .any lo.toArray bs.toArray = [k])
    (h : ∀ K, RestP P lo Q f (bs.set k true) K → wpList P lo.toArray (Exit.then K Q) [o] ⟨l.toArray, D⟩ w) : AnyP P lo Q (f + 1) bs l D w := by
  refine wpAnyH_all hr (by simp) fun i hi => ?_
  obtain rfl := List.mem_singleton.1 hi
  exact p_core ho h
theorem p_two (j k : Nat) {o' : Oper} (ho : lo[j]? = some o) (ho' : lo[k]? = some o') (hr : Region.ready .any lo.toArray bs.toArray = [j, k])
    (h : ∀ K, RestP P lo Q f (bs.set j true) K → wpList P lo.toArray (Exit.then K Q) [o] ⟨l.toArray, D⟩ w)
    (h' : ∀ K, RestP P lo Q f (bs.set k true) K → wpList P lo.toArray (Exit.then K Q) [o'] ⟨l.toArray, D⟩ w) : AnyP P lo Q (f + 1) bs l D w := by
  refine wpAnyH_all hr (by simp) fun i hi => ?_
  rcases List.mem_cons.1 hi with rfl | hi
  · exact p_core ho h
  · obtain rfl := List.mem_singleton.1 hi
    exact p_core ho' h'
theorem p_next {ops : Array Oper} {Q' : Exit → Act → World → Prop} (hK : RestP P lo Q f bs K) (h : AnyP P lo Q f bs l D w) : wpList P ops (Exit.then K Q') [] ⟨l.toArray, D⟩ w := hK l D w h
theorem p_done (hr : Region.ready .any lo.toArray bs.toArray = []) (h : Q .normal ⟨l.toArray, D⟩ w) : AnyP P lo Q f bs l D w := wpAnyH_done hr h f
theorem qt_nil {x : Operand} {a : Addr} (hx : evF l x = .pointer (some a)) : Qt P l (.nilCheck x) S M (.pointer (some a)) := fun dst ty pos af w _ => by simp [execOp, hx]
end
end Go.Sl

/- Regions that draw their order: what reads what lay there at the start is taken first, the rest comes in any order, the state free behind each step. General over the program. -/
namespace Go.Sl
set_option linter.unusedSimpArgs false
set_option linter.unusedVariables false
open Go.RowKit
section
variable {P : Program} {lo : List Oper} {Q : Exit → Act → World → Prop} {K : Act → World → Prop} {S S0 : Snap} {M : List Chunk} {l : List Value} {D : List Deferred} {w : World} {bs : List Bool} {f : Nat} {o : Oper} {v : Value}

theorem St.nilM : ∀ {M : List Chunk}, St S M w → St S [] w
  | [], h => h
  | _ :: _, h => St.nilM h.drop
theorem St.cls (hS : S0.Le S) (h : St S M w) : St S0 [] w := St.weaken hS h.nilM

theorem RL.set {α : Type} [Rep α] {c cs : List Value} {xs : List α} {y : α} {k : Nat} (h : RL S c xs) (hy : Rep.R S cs y) (hk : k < xs.length) : RL S (c.take (k * Rep.z α) ++ cs ++ c.drop (k * Rep.z α + Rep.z α)) (xs.set k y) := by
  have e : xs.set k y = (xs.take k ++ [y]) ++ xs.drop (k + 1) := by
    rw [List.set_eq_take_append_cons_drop, if_pos hk]
    simp
  rw [e]
  have h1 := h.sub 0 k (by omega)
  rw [Nat.zero_mul, List.drop_zero, List.drop_zero] at h1
  have h2 := h.sub (k + 1) (xs.length - (k + 1)) (by omega)
  have hl := h.1
  rw [List.take_of_length_le (l := xs.drop (k + 1)) (by rw [List.length_drop]; exact Nat.le_refl _), List.take_of_length_le (l := c.drop ((k + 1) * Rep.z α)) (by rw [List.length_drop, hl, ← Nat.sub_mul]; exact Nat.le_refl _), Nat.succ_mul] at h2
  exact (h1.append (RL.one_mk hy)).append h2
theorem le_of (_ : St S M w) : S.Le S := Snap.Le.refl S

abbrev AnyS (P : Program) (lo : List Oper) (Q : Exit → Act → World → Prop) (S0 : Snap) (f : Nat) (bs : List Bool) (l : List Value) (D : List Deferred) (w : World) : Prop :=
  wpAnyH P .any lo.toArray Q (fun w => St S0 [] w) f bs.toArray ⟨l.toArray, D⟩ w

theorem ps_begin {id : Nat} (hst : St S M w) (hm : P.follows .mixedOrders = true) (h : ∀ w', St S M w' → AnyS P lo Q S lo.length (List.replicate lo.length false) l D w') : (Code.region id lo.toArray true).wp P Q ⟨l.toArray, D⟩ w := by
  refine wp_region_held (S := fun w => St S [] w) hm ?_
  have := h _ hst.drew
  simpa [AnyS] using this

theorem ps_take (k : Nat) (hQ : PanicQ Q) (ho : lo[k]? = some o) (hs : Region.noSelect lo.toArray = true) (hf : Region.free .any lo.toArray bs.toArray k = true) (hr : (Region.ready .any lo.toArray bs.toArray).contains k = true)
    (hw : Region.wanted o (yielded lo.toArray l.toArray) = true) (hc : St S0 [] w) (hq : Qt P l o.op S0 [] v) (h : AnyS P lo Q S0 f (bs.set k true) (putD l o.dst v) D w) : AnyS P lo Q S0 (f + 1) bs l D w := by
  refine wpAnyH_take (i := k) (by simpa using ho) hs hf hr (fun c a w h => hQ c a _ _ w h) (.inl ⟨hw, fun w' hw' => by rw [evF_eq]; exact hq o.dst o.type o.pos o.after w' hw'⟩) hc ?_
  have e1 : bs.toArray.setIfInBounds k true = (bs.set k true).toArray := by simp
  have e2 : (⟨l.toArray, D⟩ : Act).put o.dst v = ⟨(putD l o.dst v).toArray, D⟩ := by cases o.dst <;> simp [Act.put, putD]
  rw [e1, e2]
  exact h
theorem ps_takex (k : Nat) {F : Value → Prop} (hQ : PanicQ Q) (ho : lo[k]? = some o) (hs : Region.noSelect lo.toArray = true) (hf : Region.free .any lo.toArray bs.toArray k = true) (hr : (Region.ready .any lo.toArray bs.toArray).contains k = true)
    (hw : Region.wanted o (yielded lo.toArray l.toArray) = true) (hc : St S0 [] w) (hq : ∃ v, F v ∧ Qt P l o.op S0 [] v) (h : ∀ v, F v → AnyS P lo Q S0 f (bs.set k true) (putD l o.dst v) D w) : AnyS P lo Q S0 (f + 1) bs l D w :=
  let ⟨v, hv, q⟩ := hq; ps_take k hQ ho hs hf hr hw hc q (h v hv)
theorem ps_takeno (k : Nat) (hQ : PanicQ Q) (ho : lo[k]? = some o) (hs : Region.noSelect lo.toArray = true) (hf : Region.free .any lo.toArray bs.toArray k = true) (hr : (Region.ready .any lo.toArray bs.toArray).contains k = true)
    (hw : Region.wanted o (yielded lo.toArray l.toArray) = false) (hc : St S0 [] w) (h : AnyS P lo Q S0 f (bs.set k true) (putD l o.dst undef) D w) : AnyS P lo Q S0 (f + 1) bs l D w := by
  refine wpAnyH_take (i := k) (v := undef) (by simpa using ho) hs hf hr (fun c a w h => hQ c a _ _ w h) (.inr ⟨hw, rfl⟩) hc ?_
  have e1 : bs.toArray.setIfInBounds k true = (bs.set k true).toArray := by simp
  have e2 : (⟨l.toArray, D⟩ : Act).put o.dst undef = ⟨(putD l o.dst undef).toArray, D⟩ := by cases o.dst <;> simp [Act.put, putD]
  rw [e1, e2]
  exact h

def RestS (P : Program) (lo : List Oper) (Q : Exit → Act → World → Prop) (S0 : Snap) (f : Nat) (bs : List Bool) (K : Act → World → Prop) : Prop :=
  ∀ l D w, St S0 [] w → AnyS P lo Q S0 f bs l D w → K ⟨l.toArray, D⟩ w
theorem ps_core {k : Nat} (ho : lo[k]? = some o) (h : ∀ K, RestS P lo Q S0 f (bs.set k true) K → wpList P lo.toArray (Exit.then K Q) [o] ⟨l.toArray, D⟩ w) :
    wpOp P lo.toArray Q k (fun a' w' => St S0 [] w' ∧ wpAnyH P .any lo.toArray Q (fun w => St S0 [] w) f (bs.toArray.setIfInBounds k true) a' w') ⟨l.toArray, D⟩ w := by
  refine wpOp_of_list (by simpa using ho) (h _ fun l D w hc hA => ⟨hc, ?_⟩)
  have e1 : bs.toArray.setIfInBounds k true = (bs.set k true).toArray := by simp
  rw [e1]
  exact hA
theorem ps_one (k : Nat) (ho : lo[k]? = some o) (hr : Region.ready .any lo.toArray bs.toArray = [k])
    (h : ∀ K, RestS P lo Q S0 f (bs.set k true) K → wpList P lo.toArray (Exit.then K Q) [o] ⟨l.toArray, D⟩ w) : AnyS P lo Q S0 (f + 1) bs l D w := by
  refine wpAnyH_all hr (by simp) fun i hi => ?_
  obtain rfl := List.mem_singleton.1 hi
  exact ps_core ho h
theorem ps_two (j k : Nat) {o' : Oper} (ho : lo[j]? = some o) (ho' : lo[k]? = some o') (hr : Region.ready .any lo.toArray bs.toArray = [j, k])
    (h : ∀ K, RestS P lo Q S0 f (bs.set j true) K → wpList P lo.toArray (Exit.then K Q) [o] ⟨l.toArray, D⟩ w)
    (h' : ∀ K, RestS P lo Q S0 f (bs.set k true) K → wpList P lo.toArray (Exit.then K Q) [o'] ⟨l.toArray, D⟩ w) : AnyS P lo Q S0 (f + 1) bs l D w := by
  refine wpAnyH_all hr (by simp) fun i hi => ?_
  rcases List.mem_cons.1 hi with rfl | hi
  · exact ps_core ho h
  · obtain rfl := List.mem_singleton.1 hi
    exact ps_core ho' h'
theorem ps_three (i j k : Nat) {o' o'' : Oper} (ho : lo[i]? = some o) (ho' : lo[j]? = some o') (ho'' : lo[k]? = some o'') (hr : Region.ready .any lo.toArray bs.toArray = [i, j, k])
    (h : ∀ K, RestS P lo Q S0 f (bs.set i true) K → wpList P lo.toArray (Exit.then K Q) [o] ⟨l.toArray, D⟩ w)
    (h' : ∀ K, RestS P lo Q S0 f (bs.set j true) K → wpList P lo.toArray (Exit.then K Q) [o'] ⟨l.toArray, D⟩ w)
    (h'' : ∀ K, RestS P lo Q S0 f (bs.set k true) K → wpList P lo.toArray (Exit.then K Q) [o''] ⟨l.toArray, D⟩ w) : AnyS P lo Q S0 (f + 1) bs l D w := by
  refine wpAnyH_all hr (by simp) fun q hi => ?_
  rcases List.mem_cons.1 hi with rfl | hi
  · exact ps_core ho h
  · rcases List.mem_cons.1 hi with rfl | hi
    · exact ps_core ho' h'
    · obtain rfl := List.mem_singleton.1 hi
      exact ps_core ho'' h''
theorem ps_next {ops : Array Oper} {Q' : Exit → Act → World → Prop} (hK : RestS P lo Q S0 f bs K) (hc : St S0 [] w) (h : AnyS P lo Q S0 f bs l D w) : wpList P ops (Exit.then K Q') [] ⟨l.toArray, D⟩ w := hK l D w hc h
theorem ps_done (hr : Region.ready .any lo.toArray bs.toArray = []) (h : Q .normal ⟨l.toArray, D⟩ w) : AnyS P lo Q S0 f bs l D w := wpAnyH_done hr h f
end
end Go.Sl

/- The tail of an own slice: taken, counted, indexed, cleared. General over the program. -/
namespace Go.Sl
set_option linter.unusedSimpArgs false
set_option linter.unusedVariables false
open Go.RowKit
section
variable {P : Program} {ops : Array Oper} {rest : List Oper} {Q : Exit → Act → World → Prop} {l : List Value} {D : List Deferred} {w : World} {ty : TypeId} {pos : String} {af : Array Edge} {S : Snap} {M : List Chunk}

/-- t is the tail of the own slice v from cell o on, m elements long. -/
def TlO (v t : Value) (o m : Nat) : Prop := ∃ g n cap cp, v = .slice (some ⟨g, 0, none⟩) n cap ∧ t = .slice (some ⟨g, o, none⟩) m cp

theorem qt_tail {T E F : TypeId} {x lo : Operand} {agg : Bool} {z : Nat} {zero : List Value} {bb : Nat} {v : Value} {k n a : Nat} {c : List Value} {kk : IntKind} (hst : St S M w) (hx : evF l x = v) (hk : M[k]? = some (.sl v F z n c)) (hi : evF l lo = .int kk (a : Int))
    (hT : SlT P T E) (hE : Ty P E agg z zero bb) (hn : a < n) : ∃ t, TlO v t (a * z) (n - a) ∧ Qt P l (.slice T x (some lo) none none) S M t := by
  rcases (hst.get hk).2 with ⟨rfl, rfl⟩ | ⟨g, cap, cur, fz, rfl, hg, hfz, hnc, _⟩
  · omega
  · refine ⟨.slice (some ⟨g, a * z, none⟩) (n - a) (cap - a), ⟨g, n, cap, _, rfl, rfl⟩, fun dst ty pos af w _ => ?_⟩
    simp only [execOp, hx, Sem.run_bind]
    rw [run_sliceAt hT hE (lo := (some lo).map (evF l)) (hi := (none : Option Operand).map (evF l)) (mx := (none : Option Operand).map (evF l)) (a := a) (b := n) (m := cap) (.inr ⟨kk, by simp [hi]⟩) (.inl ⟨rfl, rfl⟩) (.inl ⟨rfl, rfl⟩) (by omega) hnc (Nat.le_refl _) (by simp), if_neg (by omega)]
    simp [Addr.add_mid]

theorem qt_len_tl {T E : TypeId} {x : Operand} {v t : Value} {o m : Nat} (hx : evF l x = t) (ht : TlO v t o m) (hT : SlT P T E) :
    Qt P l (.call { callee := .builtin .len, args := #[x], argTypes := #[T] }) S M (.int .i64 m) := fun dst ty pos af w hst => by
  obtain ⟨g, n, cap, cp, rfl, rfl⟩ := ht
  simp [execOp, resolve, invoke, builtin, hx, Builtin.len_, run_underlying hT.u, goInt]

theorem qt_index_tl {T E : TypeId} {x i : Operand} {agg : Bool} {z : Nat} {zero : List Value} {bb : Nat} {v t : Value} {o m : Nat} {kk : IntKind} {j : Int} (hx : evF l x = t) (ht : TlO v t o m) (hi : evF l i = .int kk j)
    (hT : SlT P T E) (hE : Ty P E agg z zero bb) (h0 : 0 ≤ j) (hn : j.toNat < m) : ∃ p, PtO v p (o + j.toNat * z) ∧ Qt P l (.indexAddr T x i) S M p := by
  obtain ⟨g, n, cap, cp, rfl, rfl⟩ := ht
  refine ⟨.pointer (some ⟨g, o + j.toNat * z, none⟩), ⟨g, n, cap, rfl, rfl⟩, fun dst ty pos af w _ => ?_⟩
  have hlt : j < m := by omega
  simp [execOp, hx, hi, Instr.indexAt, asIntOf, run_underlying hT.u, h0, hlt, hE.run_sizeOf, Addr.add_mid]

theorem zeroCells_list (z : Array Value) (n : Nat) (hz : 0 < z.size) : (Builtin.zeroCells z n).toList = (List.replicate n z.toList).flatten := by
  unfold Builtin.zeroCells
  rw [Array.toList_map, Array.toList_range]
  induction n with
  | zero => simp
  | succ n ih =>
    rw [Nat.succ_mul, List.range_add, List.map_append, ih, List.replicate_succ', List.flatten_append, List.map_map]
    congr 1
    simp only [List.flatten_cons, List.flatten_nil, List.append_nil]
    apply List.ext_getElem
    · simp
    · intro i h1 h2
      have hi : i < z.size := by simpa using h2
      have e : (n * z.size + i) % z.size = i := by rw [Nat.add_comm, Nat.add_mul_mod_self_right, Nat.mod_eq_of_lt hi]
      simp [e, getElem!_pos z i hi]

/-- Cells written into an own slice. -/
theorem own_set {F : TypeId} {v : Value} {g o k zz n n' cap' : Nat} {c cs : List Value} (hst : St S M w) (hv : v = .slice (some ⟨g, 0, none⟩) n' cap') (hk : M[k]? = some (.sl v F zz n c)) (hf : o + cs.length ≤ c.length) :
    St S (M.set k (.sl v F zz n (c.take o ++ cs ++ c.drop (o + cs.length)))) (w.setCells g o cs) ∧ (∀ j, j < cs.length → (w.cell? ⟨g, o + 0 + j, none⟩).isSome = true) ∧ (∀ j, j < cs.length → w.frozen? ⟨g, o + 0 + j, none⟩ = false) := by
  subst hv
  have hmv := hst.move hk
  have h0 := hst.get hk
  rcases h0.2 with ⟨e, _⟩ | ⟨g', cap, cur, fz, e, hg, hfz, hnc, hcm, hcs, htk⟩
  · cases e
  · obtain ⟨hgg, hnn, hcc⟩ : g = g' ∧ n' = n ∧ cap' = cap := by simpa using e
    subst hgg; subst hcc
    have hcl := h0.1
    have hcur : n * zz ≤ cur.size := Nat.le_trans (Nat.mul_le_mul_right _ hnc) hcs
    have hfit : o + cs.length ≤ cur.toList.length := by simp; omega
    have hat := setCells_at g F fz cs o w cur.toList (by simpa using hg) hfit
    obtain ⟨e1, e2, e3⟩ := setCells_world g cs o w
    have hcell : ∀ j, j < cs.length → (w.cell? ⟨g, o + 0 + j, none⟩).isSome = true := fun j hj => by
      have hlt : o + j < cur.size := by simp at hfit; omega
      simp only [World.cell?, hg]
      simp [hlt]
    have hfro : ∀ j, j < cs.length → w.frozen? ⟨g, o + 0 + j, none⟩ = false := fun j hj => by
      have := hfz (o + j) (by simp at hfit; omega)
      simp only [World.frozen?, hg]
      simpa using this
    refine ⟨St.back hk (hmv.set e1 e2 e3 ⟨?_, .inr ⟨g, cap', _, fz, by rw [hnn], hat, ?_, hnc, hcm, ?_, ?_⟩⟩ (fun b hb => .inl hb) (fun b _ hne => setCells_other g cs _ w b (fun e => hne (by simp [Chunk.own, Value.ownBlock, e])))), hcell, hfro⟩
    · simp only [List.length_append, List.length_take, List.length_drop]; omega
    · intro j hj
      refine hfz j ?_
      simp only [List.size_toArray, List.length_append, List.length_take, List.length_drop, Array.length_toList] at hj hfit
      omega
    · simp only [List.size_toArray, List.length_append, List.length_take, List.length_drop, Array.length_toList] at hfit ⊢
      omega
    · rw [List.toList_toArray, ← htk]
      have hlc : (cur.toList.take (n * zz)).length = n * zz := by simp; omega
      rw [List.take_append, List.take_append]
      simp only [List.length_append, List.length_take, Array.length_toList] at hfit ⊢
      have hmin : min o cur.size = o := by omega
      rw [hmin, List.take_take, List.take_take, List.drop_take]
      have ho : o ≤ n * zz := by omega
      rw [Nat.min_eq_left ho, Nat.min_eq_right ho]
      rw [List.take_of_length_le (show cs.length ≤ n * zz - o by omega)]

theorem step_drop {op : Op} {v : Value} {w' : World} (hr : (execOp (evF l) ⟨none, op, ty, pos, af, none⟩).run P w = .ok (.value v) w')
    (h : wpList P ops Q rest ⟨l.toArray, D⟩ w') : wpList P ops Q (⟨none, op, ty, pos, af, none⟩ :: rest) ⟨l.toArray, D⟩ w := by
  refine wpList_plain rfl fun K hK => ?_
  unfold Oper.wp
  rw [evF_eq, hr]
  refine hK _ _ ?_
  simpa [Act.put] using h

theorem s_clear_tl {T E F : TypeId} {x : Operand} {agg : Bool} {z : Nat} {zero : List Value} {bb : Nat} {v t : Value} {k n a : Nat} {c : List Value} (hst : St S M w) (hx : evF l x = t) (ht : TlO v t (a * z) (n - a)) (hk : M[k]? = some (.sl v F z n c))
    (hT : SlT P T E) (hE : Ty P E agg z zero bb) (h1 : zero.all (·.oneCell') = true) (hz : 0 < z) (hn : a < n)
    (h : ∀ w', St S (M.set k (.sl v F z n (c.take (a * z) ++ (List.replicate (n - a) zero).flatten))) w' → wpList P ops Q rest ⟨l.toArray, D⟩ w') :
    wpList P ops Q (⟨none, .call { callee := .builtin .clear, args := #[x], argTypes := #[T] }, ty, pos, af, none⟩ :: rest) ⟨l.toArray, D⟩ w := by
  obtain ⟨g, n', cap, cp, hv, rfl⟩ := ht
  have hcl : c.length = n * z := (hst.get hk).1
  have hzs : (vOf agg zero).cells.size = z := by
    have e1 : (vOf agg zero).cells.toList.length = z := by rw [hE.cells_]; exact hE.len_
    simpa using e1
  have hfl : ∀ m, (List.replicate m zero).flatten.length = m * z := fun m => by
    have e1 : zero.length = z := hE.len_
    simp [e1]
  have hsum : a * z + (n - a) * z = n * z := by rw [← Nat.add_mul]; congr 1; omega
  obtain ⟨g1, g2, g3⟩ := own_set (o := a * z) (cs := (List.replicate (n - a) zero).flatten) hst hv hk (by rw [hfl, hcl, hsum]; exact Nat.le_refl _)
  have hrun := run_storeCells_cells (P := P) g (a * z) (List.replicate (n - a) zero).flatten 0 w g2 g3 (fun u hu => by
    obtain ⟨l0, h2, h3⟩ := List.mem_flatten.1 hu
    rw [List.eq_of_mem_replicate h2] at h3
    exact List.all_eq_true.1 h1 u h3)
  rw [hfl, hsum, ← hcl, List.drop_length, List.append_nil] at g1
  refine step_drop (v := .tuple #[]) (w' := w.setCells g (a * z) (List.replicate (n - a) zero).flatten) ?_ (h _ g1)
  have hzc : (Builtin.zeroCells (vOf agg zero).cells (n - a)).toList = (List.replicate (n - a) zero).flatten := by
    rw [zeroCells_list _ _ (by omega), hE.cells_]
  obtain ⟨m, hm⟩ : ∃ m, n - a = m + 1 := ⟨n - a - 1, by omega⟩
  rw [hm] at hzc hrun hx ⊢
  simp only [Nat.add_zero] at hrun
  simp [execOp, resolve, invoke, builtin, hx, Builtin.clear_, run_underlying hT.u, hE.run_zero, hzc, hrun]

theorem RL.reps {α : Type} [Rep α] {cs : List Value} {x : α} (h : Rep.R S cs x) : ∀ n, RL S (List.replicate n cs).flatten (List.replicate n x)
  | 0 => RL.nil
  | n + 1 => by
    rw [List.replicate_succ, List.replicate_succ, List.flatten_cons]
    exact (RL.one_mk h).append (RL.reps h n)
end
end Go.Sl

/- A field of a struct that is a value. General over the program. -/
namespace Go.Sl
set_option linter.unusedSimpArgs false
set_option linter.unusedVariables false
open Go.RowKit
variable {P : Program} {S : Snap} {M : List Chunk} {l : List Value}
theorem qt_fieldV {T : TypeId} {fs : Array Field} {f : Field} {k : Nat} {x : Operand} {agg : Bool} {z : Nat} {zero : List Value} {bb : Nat} {cs es : List Value} (hx : evF l x = .agg cs.toArray) (hu : P.underlying T = some (.struct fs)) (hf : fs[k]? = some f)
    (hE : Ty P f.type agg z zero bb) (hc : (cs.drop f.offset).take z = es) (hl : es.length = z) : Qt P l (.field T x k) S M (vOf agg es) := fun dst ty pos af w _ => by
  have hp := run_part hE w hc hl
  simp [execOp, hx, Instr.field, run_underlying hu, hf, asAgg, hp]
end Go.Sl
