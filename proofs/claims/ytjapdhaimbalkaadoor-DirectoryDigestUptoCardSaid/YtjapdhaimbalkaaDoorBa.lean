/- Rules for walking a program, first part: state, own slices, calls, quiet regions. -/
import Derived.WalkKit
import Derived.WalkSpells
import Derived.WalkLawsBesides
import Derived.Laws.CopyRow
import Derived.Deep.MidRow
import Derived.Deep.AppendSrc
import Derived.Deep.Slices
import Derived.Lib.ConvBytes
import Derived.Laws.MakeOwn
import Derived.Laws.BytesArg
import Derived.OpenShut
import Derived.Test.YtjapdhaimbalkaaDoorRows
import Derived.BigQuiet
import Derived.Lib.Hide
import Derived.DeepKeys
import Derived.Laws.StructEq
import Derived.StillTail
import Derived.Deep.LoopGhost

/- Rules of a small separation logic over the model's worlds. General over the program. -/
namespace Go.Sl
set_option linter.unusedSimpArgs false
set_option linter.unusedVariables false
open Go.RowKit

/-- What never changes. -/
structure Snap where
  os : Os
  tape : Nat → Question → Nat
  output : Array (Nat × ByteArray)
  blk : Nat → Option Obj

structure Snap.Le (S S' : Snap) : Prop where
  os : S'.os = S.os
  tape : S'.tape = S.tape
  output : S'.output = S.output
  blk : ∀ b o, S.blk b = some o → S'.blk b = some o

theorem Snap.Le.refl (S : Snap) : S.Le S := ⟨rfl, rfl, rfl, fun _ _ h => h⟩
theorem Snap.Le.trans {A B C : Snap} (h : A.Le B) (k : B.Le C) : A.Le C :=
  ⟨k.os.trans h.os, k.tape.trans h.tape, k.output.trans h.output, fun b o e => k.blk b o (h.blk b o e)⟩

/-- The slice v owns a row whose visible cells are c; no cell of it is frozen. -/
def OwnS (w : World) (T : TypeId) (z : Nat) (v : Value) (n : Nat) (c : List Value) : Prop :=
  c.length = n * z ∧ ((v = .slice none 0 0 ∧ n = 0) ∨ ∃ g cap cur fz, v = .slice (some ⟨g, 0, none⟩) n cap ∧ w.heap[g]? = some (.cells cur T fz) ∧
    (∀ j, j < cur.size → ¬ (fz.1 ≤ j ∧ j < fz.2)) ∧ n ≤ cap ∧ cap ≤ maxLen ∧ cap * z ≤ cur.size ∧ cur.toList.take (n * z) = c)

/-- What is owned: a whole block of cells; or a slice that may grow. -/
inductive Chunk where
  | box (b : Nat) (c : List Value) (T : TypeId)
  | sl (v : Value) (T : TypeId) (z n : Nat) (c : List Value)
  | obj (b : Nat) (o : Obj)

def Chunk.own : Chunk → Option Nat
  | .box b _ _ => some b
  | .sl v _ _ _ _ => v.ownBlock
  | .obj b _ => some b

def Chunk.at (w : World) : Chunk → Prop
  | .box b c T => w.heap[b]? = some (.cells c.toArray T (0, 0))
  | .sl v T z n c => OwnS w T z v n c
  | .obj b o => w.heap[b]? = some o

def Chunk.apart (c d : Chunk) : Prop := ∀ b, c.own = some b → d.own = some b → False

structure St (S : Snap) (M : List Chunk) (w : World) : Prop where
  os : w.os = S.os
  tape : w.tape = S.tape
  output : w.output = S.output
  has : ∀ b o, S.blk b = some o → w.heap[b]? = some o
  at_ : ∀ c ∈ M, c.at w
  out : ∀ c ∈ M, ∀ b, c.own = some b → S.blk b = none
  apart : M.Pairwise Chunk.apart

theorem Chunk.lt {c : Chunk} {w : World} (h : c.at w) : ∀ b, c.own = some b → b < w.heap.size := by
  intro b hb
  cases c with
  | box b' cs T =>
    obtain rfl : b' = b := by simpa [Chunk.own] using hb
    exact (Array.getElem?_eq_some_iff.1 h).1
  | sl v T z n cs =>
    rcases h.2 with ⟨rfl, _⟩ | ⟨g, cap, cur, fz, rfl, hg, _⟩
    · simp [Chunk.own, Value.ownBlock] at hb
    · obtain rfl : g = b := by simpa [Chunk.own, Value.ownBlock] using hb
      exact (Array.getElem?_eq_some_iff.1 hg).1
  | obj b' o =>
    obtain rfl : b' = b := by simpa [Chunk.own] using hb
    exact (Array.getElem?_eq_some_iff.1 h).1

theorem Chunk.at_of_block {c : Chunk} {w w' : World} (h : c.at w) (hb : ∀ b, c.own = some b → w'.heap[b]? = w.heap[b]?) : c.at w' := by
  cases c with
  | box b cs T => exact (hb b rfl).trans h
  | sl v T z n cs =>
    obtain ⟨h1, h2⟩ := h
    refine ⟨h1, ?_⟩
    rcases h2 with h2 | ⟨g, cap, cur, fz, rfl, hh, r⟩
    · exact Or.inl h2
    · exact Or.inr ⟨g, cap, cur, fz, rfl, (hb g (by simp [Chunk.own, Value.ownBlock])).trans hh, r⟩
  | obj b o => exact (hb b rfl).trans h

theorem St.drop {S : Snap} {c : Chunk} {M : List Chunk} {w : World} (h : St S (c :: M) w) : St S M w :=
  ⟨h.os, h.tape, h.output, h.has, fun d hd => h.at_ d (.tail _ hd), fun d hd => h.out d (.tail _ hd), (List.pairwise_cons.1 h.apart).2⟩

theorem Chunk.apart_symm {c d : Chunk} (h : c.apart d) : d.apart c := fun b h1 h2 => h b h2 h1

theorem St.perm {S : Snap} {M M' : List Chunk} {w : World} (p : M.Perm M') (h : St S M w) : St S M' w :=
  ⟨h.os, h.tape, h.output, h.has, fun d hd => h.at_ d (p.mem_iff.2 hd), fun d hd => h.out d (p.mem_iff.2 hd),
   (p.pairwise_iff (fun {_ _} => Chunk.apart_symm)).1 h.apart⟩

/-- A new block. -/
theorem St.alloc {S : Snap} {M : List Chunk} {w : World} (h : St S M w) (c : List Value) (T : TypeId) :
    St S (.box w.heap.size c T :: M) (w.alloc (.cells c.toArray T)) := by
  have old : ∀ b, b < w.heap.size → (w.alloc (.cells c.toArray T)).heap[b]? = w.heap[b]? := fun b hb => Below.heap_alloc _ _ _ hb
  refine ⟨h.os, h.tape, h.output, fun b o e => ?_, fun d hd => ?_, fun d hd b hb => ?_, List.pairwise_cons.2 ⟨fun d hd b hb hd' => ?_, h.apart⟩⟩
  · have := h.has b o e
    rw [old b (Array.getElem?_eq_some_iff.1 this).1]; exact this
  · rcases List.mem_cons.1 hd with rfl | hd
    · exact heap_alloc_new w _
    · exact Chunk.at_of_block (h.at_ d hd) fun b hb => old b (Chunk.lt (h.at_ d hd) b hb)
  · rcases List.mem_cons.1 hd with rfl | hd
    · obtain rfl : w.heap.size = b := by simpa [Chunk.own] using hb
      cases e : S.blk w.heap.size with
      | none => rfl
      | some o => have := (Array.getElem?_eq_some_iff.1 (h.has _ _ e)).1; omega
    · exact h.out d hd b hb
  · obtain rfl : w.heap.size = b := by simpa [Chunk.own] using hb
    have := Chunk.lt (h.at_ d hd) _ hd'; omega

/-- A draw. -/
theorem St.drew {S : Snap} {M : List Chunk} {w : World} (h : St S M w) : St S M w.drew :=
  ⟨h.os, h.tape, h.output, h.has, fun d hd => Chunk.at_of_block (h.at_ d hd) fun _ _ => rfl, h.out, h.apart⟩

/-- What an owned block's world turns into, the rest as it was. -/
theorem St.set {S : Snap} {M : List Chunk} {w w' : World} {c d : Chunk} (h : St S (c :: M) w) (hos : w'.os = w.os) (ht : w'.tape = w.tape) (ho : w'.output = w.output)
    (hd : d.at w') (hown : ∀ b, d.own = some b → c.own = some b ∨ w.heap.size ≤ b) (hb : ∀ b, b < w.heap.size → c.own ≠ some b → w'.heap[b]? = w.heap[b]?) : St S (d :: M) w' := by
  have hc := h.at_ c (.head _)
  have hap := List.pairwise_cons.1 h.apart
  refine ⟨hos.trans h.os, ht.trans h.tape, ho.trans h.output, fun b o e => ?_, fun x hx => ?_, fun x hx b hxb => ?_, List.pairwise_cons.2 ⟨fun x hx b h1 h2 => ?_, hap.2⟩⟩
  · have := h.has b o e
    rw [hb b (Array.getElem?_eq_some_iff.1 this).1 (fun e' => by rw [h.out c (.head _) b e'] at e; cases e)]; exact this
  · rcases List.mem_cons.1 hx with rfl | hx
    · exact hd
    · have hax := h.at_ x (.tail _ hx)
      exact Chunk.at_of_block hax fun b hxb => hb b (Chunk.lt hax b hxb) (fun e' => hap.1 x hx b e' hxb)
  · rcases List.mem_cons.1 hx with rfl | hx
    · rcases hown b hxb with e | e
      · exact h.out c (.head _) b e
      · cases e' : S.blk b with
        | none => rfl
        | some o => have := (Array.getElem?_eq_some_iff.1 (h.has _ _ e')).1; omega
    · exact h.out x (.tail _ hx) b hxb
  · rcases hown b h1 with e | e
    · exact hap.1 x hx b e h2
    · have := Chunk.lt (h.at_ x (.tail _ hx)) b h2; omega

theorem St.lt {S : Snap} {M : List Chunk} {w : World} (h : St S M w) {b : Nat} {o : Obj} (e : S.blk b = some o) : b < w.heap.size := (Array.getElem?_eq_some_iff.1 (h.has b o e)).1

/-- The snapshot with one block more. -/
def Snap.with (S : Snap) (b : Nat) (o : Obj) : Snap := { S with blk := fun k => if k = b then some o else S.blk k }

theorem Snap.le_with {S : Snap} {b : Nat} {o : Obj} (h : S.blk b = none) : S.Le (S.with b o) :=
  ⟨rfl, rfl, rfl, fun k x e => by
    simp only [Snap.with]
    split
    · subst_vars; rw [h] at e; cases e
    · exact e⟩

theorem St.freeze_box {S : Snap} {M : List Chunk} {w : World} {b : Nat} {c : List Value} {T : TypeId} (h : St S (.box b c T :: M) w) :
    S.Le (S.with b (.cells c.toArray T (0, 0))) ∧ St (S.with b (.cells c.toArray T (0, 0))) M w := by
  have hn := h.out (.box b c T) (.head _) b rfl
  have hap := List.pairwise_cons.1 h.apart
  refine ⟨Snap.le_with hn, h.os, h.tape, h.output, fun k o e => ?_, fun d hd => h.at_ d (.tail _ hd), fun d hd k hk => ?_, hap.2⟩
  · simp only [Snap.with] at e
    split at e
    · rename_i hkb; rw [hkb]; rw [← Option.some.inj e]; exact h.at_ (.box b c T) (.head _)
    · exact h.has k o e
  · simp only [Snap.with]
    split
    · rename_i hkb; rw [hkb] at hk; exact (hap.1 d hd _ rfl hk).elim
    · exact h.out d (.tail _ hd) k hk

end Go.Sl

namespace Go.Sl
open Go.RowKit
variable {P : Program}

/-! ### Types -/
/-- A value out of its cells. -/
def vOf (agg : Bool) (cs : List Value) : Value := if agg then .agg cs.toArray else cs.headD undef
@[simp] theorem vOf_true (cs : List Value) : vOf true cs = .agg cs.toArray := rfl
@[simp] theorem vOf_false (v : Value) (r : List Value) : vOf false (v :: r) = v := rfl

/-- What the rules ask of a type: an aggregate or not, its cells, its zero. -/
class Ty (P : Program) (T : TypeId) (agg : outParam Bool) (z : outParam Nat) (zero : outParam (List Value)) (by_ : outParam Nat) : Prop where
  agg_ : (P.underlying T).map (fun d => match d with | .struct _ | .array _ _ => true | _ => false) = some agg
  info_ : (P.info? T).map (fun i => (i.zero, i.size, i.bytes)) = some (some (vOf agg zero), z, by_)
  len_ : zero.length = z
  one_ : zero.all (·.oneCell') = true
  cells_ : (vOf agg zero).cells.toList = zero
  z1_ : agg = false → z = 1

section
variable {T : TypeId} {agg : Bool} {z : Nat} {zero : List Value} {bb : Nat}

theorem Ty.run_isAgg (h : Ty P T agg z zero bb) (w : World) : (isAgg T).run P w = .ok agg w := by
  have := h.agg_
  cases hu : P.underlying T with
  | none => simp [hu] at this
  | some d =>
    rw [hu] at this
    simp only [Option.map_some, Option.some.injEq] at this
    unfold isAgg
    rw [Sem.run_bind, run_underlying hu w]
    cases d <;> simp_all

theorem Ty.run_sizeOf (h : Ty P T agg z zero bb) (w : World) : (sizeOf T).run P w = .ok z w := by
  have := h.info_
  cases hu : P.info? T with
  | none => simp [hu] at this
  | some i => simp [hu] at this; simp [sizeOf, typeInfo, hu, this]

theorem Ty.run_bytes (h : Ty P T agg z zero bb) : ∃ i, P.info? T = some i ∧ i.zero = some (vOf agg zero) ∧ i.size = z ∧ i.bytes = bb := by
  have := h.info_
  cases hu : P.info? T with
  | none => simp [hu] at this
  | some i => simp [hu] at this; exact ⟨i, rfl, this⟩

theorem Ty.run_zero (h : Ty P T agg z zero bb) (w : World) : (zeroValue T).run P w = .ok (vOf agg zero) w := by
  obtain ⟨i, h1, h2, _⟩ := h.run_bytes
  simp [zeroValue, typeInfo, h1, h2]

theorem Ty.size_pos (h : Ty P T agg z zero bb) : agg = false → z = 1 := h.z1_

/-- The cells cs lie in block b from o on. -/
theorem run_load (h : Ty P T agg z zero bb) (w : World) (b o : Nat) (cs : List Value) (hc : w.rangeAt b o cs) (hl : cs.length = z) :
    (Instr.loadAt T (.pointer (some ⟨b, o, none⟩))).run P w = .ok (vOf agg cs) w := by
  have hcl : (loadCells ⟨b, o, none⟩ cs.length).run P w = .ok cs.toArray w :=
    run_loadCells_list (P := P) w ⟨b, o, none⟩ cs (fun j v hv => by rw [Addr.add_mid]; exact hc j v hv)
  cases agg with
  | true =>
    simp only [Instr.loadAt, Instr.sureAddr, Sem.run_bind, Sem.run_pure, Result.andThen_ok, loadVar, h.run_isAgg, h.run_sizeOf, if_true, ← hl, hcl, vOf_true]
  | false =>
    have hz := h.size_pos rfl
    obtain ⟨v, rfl⟩ : ∃ v, cs = [v] := List.length_eq_one_iff.1 (by omega)
    have h0 := hc 0 v rfl
    have : (Go.load ⟨b, o, none⟩).run P w = .ok v w := by
      simp only [Nat.add_zero] at h0
      simp [Go.load, Sem.run, h0]
    simp only [Instr.loadAt, Instr.sureAddr, Sem.run_bind, Sem.run_pure, Result.andThen_ok, loadVar, h.run_isAgg, if_false, this, vOf_false, Bool.false_eq_true]
end

/-! ### Frames -/
def nth : List Value → Nat → Value
  | [], _ => undef
  | v :: _, 0 => v
  | _ :: r, n + 1 => nth r n

theorem nth_eq (l : List Value) (n : Nat) : nth l n = l.toArray.getD n undef := by
  induction l generalizing n with
  | nil => simp [nth]
  | cons v r ih =>
    cases n with
    | zero => simp [nth]
    | succ n => rw [nth, ih]; simp

def evF (l : List Value) : Operand → Value
  | .tmp t => nth l t
  | .const v => v
  | .global g => .pointer (some ⟨g, 0, none⟩)
  | .func f => .func (.func f) #[] #[]

theorem evF_eq (l : List Value) (D : List Deferred) : (⟨l.toArray, D⟩ : Act).eval = evF l := by
  funext x
  cases x <;> simp [Act.eval, evF, nth_eq]

section
variable {ops : Array Oper} {rest : List Oper} {Q : Exit → Act → World → Prop} {l : List Value} {D : List Deferred} {w : World} {d : Tmp} {ty : TypeId} {pos : String} {af : Array Edge}

theorem step_value {op : Op} {v : Value} {w' : World} (hr : (execOp (evF l) ⟨some d, op, ty, pos, af, none⟩).run P w = .ok (.value v) w')
    (h : wpList P ops Q rest ⟨(l.set d v).toArray, D⟩ w') : wpList P ops Q (⟨some d, op, ty, pos, af, none⟩ :: rest) ⟨l.toArray, D⟩ w := by
  refine wpList_plain rfl fun K hK => ?_
  unfold Oper.wp
  rw [evF_eq, hr]
  refine hK _ _ ?_
  simpa [Act.put] using h

theorem step_skip {op : Op} {w' : World} (hr : (execOp (evF l) ⟨none, op, ty, pos, af, none⟩).run P w = .ok .skip w')
    (h : wpList P ops Q rest ⟨l.toArray, D⟩ w') : wpList P ops Q (⟨none, op, ty, pos, af, none⟩ :: rest) ⟨l.toArray, D⟩ w := by
  refine wpList_plain rfl fun K hK => ?_
  unfold Oper.wp
  rw [evF_eq, hr]
  exact hK _ _ h

variable {S : Snap} {M : List Chunk}

/-- 'box': a new variable that holds x. -/
theorem s_box {T : TypeId} {x : Operand} {v : Value} {cs : List Value} (hst : St S M w) (hx : evF l x = v) (hc : v.cells.toList = cs)
    (h : ∀ b w', St S (.box b cs T :: M) w' → wpList P ops Q rest ⟨(l.set d (.pointer (some ⟨b, 0, none⟩))).toArray, D⟩ w') :
    wpList P ops Q (⟨some d, .box T x, ty, pos, af, none⟩ :: rest) ⟨l.toArray, D⟩ w := by
  subst hc
  refine step_value (v := .pointer (some ⟨w.heap.size, 0, none⟩)) (w' := w.alloc (.cells v.cells T)) ?_ (h _ _ (hst.alloc v.cells.toList T))
  simp only [execOp, Instr.box, newVar, newRow, newObj, hx]
  rfl

/-- 'alloc': a new variable, zero. -/
theorem s_alloc {T : TypeId} {agg : Bool} {z : Nat} {zero : List Value} {bb : Nat} (hst : St S M w) (hT : Ty P T agg z zero bb)
    (h : ∀ b w', St S (.box b zero T :: M) w' → wpList P ops Q rest ⟨(l.set d (.pointer (some ⟨b, 0, none⟩))).toArray, D⟩ w') :
    wpList P ops Q (⟨some d, .alloc T, ty, pos, af, none⟩ :: rest) ⟨l.toArray, D⟩ w := by
  have hcz : (vOf agg zero).cells = zero.toArray := by apply Array.ext'; simpa using hT.cells_
  refine step_value (v := .pointer (some ⟨w.heap.size, 0, none⟩)) (w' := w.alloc (.cells zero.toArray T)) ?_ (h _ _ (hst.alloc zero T))
  simp only [execOp, Instr.alloc, Sem.run_bind, hT.run_zero, Result.andThen_ok, newVar, newRow, newObj, hcz]
  rfl

theorem St.get {k : Nat} {c : Chunk} (hst : St S M w) (hk : M[k]? = some c) : c.at w := hst.at_ c (List.mem_of_getElem? hk)

theorem range_box {b : Nat} {c : List Value} {B : TypeId} {off z : Nat} (h : Chunk.at w (.box b c B)) : w.rangeAt b off ((c.drop off).take z) := by
  intro j v hv
  rw [List.getElem?_take] at hv
  split at hv
  · rw [List.getElem?_drop] at hv
    simp only [World.cell?, show w.heap[b]? = _ from h]
    simpa using hv
  · cases hv

/-- 'load' out of an owned box. -/
theorem s_load {T : TypeId} {x : Operand} {agg : Bool} {z : Nat} {zero : List Value} {bb : Nat} {b off : Nat} {c cs : List Value} {B : TypeId} (hst : St S M w) (hx : evF l x = .pointer (some ⟨b, off, none⟩)) (k : Nat) (hk : M[k]? = some (.box b c B))
    (hT : Ty P T agg z zero bb) (hc : (c.drop off).take z = cs) (hl : cs.length = z) (h : wpList P ops Q rest ⟨(l.set d (vOf agg cs)).toArray, D⟩ w) :
    wpList P ops Q (⟨some d, .load T x, ty, pos, af, none⟩ :: rest) ⟨l.toArray, D⟩ w := by
  refine step_value (v := vOf agg cs) (w' := w) ?_ h
  simp only [execOp, hx, Sem.run_bind, run_load hT w b off cs (hc ▸ range_box (hst.get hk)) hl, Result.andThen_ok, Sem.run_pure]
end

section
variable {ops : Array Oper} {rest : List Oper} {Q : Exit → Act → World → Prop} {l : List Value} {D : List Deferred} {w : World} {d : Tmp} {ty : TypeId} {pos : String} {af : Array Edge} {S : Snap} {M : List Chunk}

/-! ### Changing the chunk at place k -/
theorem St.move {k : Nat} {c : Chunk} (h : St S M w) (hk : M[k]? = some c) : St S (c :: M.eraseIdx k) w := by
  refine h.perm ?_
  have hlt : k < M.length := (List.getElem?_eq_some_iff.1 hk).1
  have hc : M[k] = c := (List.getElem?_eq_some_iff.1 hk).2
  rw [List.eraseIdx_eq_take_drop_succ]
  have := List.perm_middle (a := c) (l₁ := M.take k) (l₂ := M.drop (k + 1))
  refine (List.Perm.of_eq ?_).trans this
  rw [← hc, List.getElem_cons_drop, List.take_append_drop]

theorem St.back {k : Nat} {c d : Chunk} {w' : World} (hk : M[k]? = some c) (h : St S (d :: M.eraseIdx k) w') : St S (M.set k d) w' := by
  refine h.perm ?_
  have hlt : k < M.length := (List.getElem?_eq_some_iff.1 hk).1
  rw [List.eraseIdx_eq_take_drop_succ]
  have := List.perm_middle (a := d) (l₁ := M.take k) (l₂ := M.drop (k + 1))
  refine this.symm.trans (List.Perm.of_eq ?_)
  rw [List.set_eq_take_append_cons_drop, if_pos hlt]

theorem St.erase (h : St S M w) (k : Nat) : St S (M.eraseIdx k) w := by
  by_cases hk : k < M.length
  · exact (h.move (List.getElem?_eq_getElem hk)).drop
  · rw [List.eraseIdx_of_length_le (by omega)]; exact h

/-- Cells of an owned block are written. -/
theorem St.write {k : Nat} {b o : Nat} {c vs : List Value} {T : TypeId} (h : St S M w) (hk : M[k]? = some (.box b c T)) (_hf : o + vs.length ≤ c.length) :
    St S (M.set k (.box b (c.take o ++ vs ++ c.drop (o + vs.length)) T)) (w.setRow b (c.take o ++ vs ++ c.drop (o + vs.length)).toArray) := by
  have hm := h.move hk
  have hb : w.heap[b]? = some (.cells c.toArray T (0, 0)) := hm.at_ _ (.head _)
  refine St.back hk (hm.set rfl rfl rfl ?_ (fun b' hb' => .inl hb') (fun b' _ hne => ?_))
  · exact setRow_heap w b _ _ T _ hb
  · exact setRow_other w b b' _ (fun e => hne (by simp [Chunk.own, e]))

theorem run_storeRow {b o : Nat} {c vs : List Value} {T : TypeId} (hb : w.heap[b]? = some (.cells c.toArray T (0, 0))) (hf : o + vs.length ≤ c.length) (h1 : ∀ u ∈ vs, u.oneCell' = true) :
    (storeCells ⟨b, o, none⟩ vs).run P w = .ok () (w.setRow b (c.take o ++ vs ++ c.drop (o + vs.length)).toArray) := by
  have := run_storeCells_at P b o T vs 0 c.toArray w hb (by simpa using hf) h1
  simpa using this

/-- 'store' into an owned box. -/
theorem s_store {T : TypeId} {x y : Operand} {agg : Bool} {z : Nat} {zero : List Value} {bb : Nat} {b off : Nat} {c cs : List Value} {B : TypeId} {v : Value}
    (hst : St S M w) (hx : evF l x = .pointer (some ⟨b, off, none⟩)) (k : Nat) (hk : M[k]? = some (.box b c B)) (hT : Ty P T agg z zero bb)
    (hy : evF l y = v) (hc : v.cells.toList = cs) (hl : cs.length = z) (h1 : cs.all (·.oneCell') = true) (hf : off + z ≤ c.length)
    (h : ∀ w', St S (M.set k (.box b (c.take off ++ cs ++ c.drop (off + z)) B)) w' → wpList P ops Q rest ⟨l.toArray, D⟩ w') :
    wpList P ops Q (⟨none, .store T x y, ty, pos, af, none⟩ :: rest) ⟨l.toArray, D⟩ w := by
  subst hl
  have hb : w.heap[b]? = some (.cells c.toArray B (0, 0)) := hst.get hk
  refine step_skip (w' := w.setRow b (c.take off ++ cs ++ c.drop (off + cs.length)).toArray) ?_ (h _ (hst.write hk hf))
  have hsz : v.cells.size = cs.length := by rw [← hc]; simp
  simp only [execOp, hx, hy, Instr.storeAt, Instr.sureAddr, Sem.run_bind, Sem.run_pure, Result.andThen_ok, storeVar, hT.run_sizeOf, hsz, ne_eq, not_true_eq_false, if_false]
  rw [hc, run_storeRow hb hf (fun u hu => List.all_eq_true.1 h1 u hu)]
  rfl

/-! ### Data that never changes -/
class Rep (α : Type) where
  z : Nat
  agg : Bool
  R : Snap → List Value → α → Prop
  mono : ∀ {S S' : Snap} {cs : List Value} {x : α}, S.Le S' → R S cs x → R S' cs x
  len : ∀ {S : Snap} {cs : List Value} {x : α}, R S cs x → cs.length = z
  one : ∀ {S : Snap} {cs : List Value} {x : α}, R S cs x → ∀ u ∈ cs, u.oneCell' = true
  z1 : agg = false → z = 1

variable {α : Type} [Rep α]

/-- The value v is the datum x. -/
def Rv (S : Snap) (v : Value) (x : α) : Prop := ∃ cs, v = vOf (Rep.agg α) cs ∧ Rep.R S cs x
/-- The pointer p points to the datum x, which never changes. -/
def Pt (S : Snap) (p : Value) (x : α) : Prop := ∃ b o c T fz, p = .pointer (some ⟨b, o, none⟩) ∧ S.blk b = some (.cells c T fz) ∧ Rep.R S ((c.toList.drop o).take (Rep.z α)) x
/-- Cells, one datum behind the other. -/
def RL (S : Snap) (c : List Value) (xs : List α) : Prop := c.length = xs.length * Rep.z α ∧ ∀ i x, xs[i]? = some x → Rep.R S ((c.drop (i * Rep.z α)).take (Rep.z α)) x
/-- The slice v is the list xs. -/
def RSl (S : Snap) (v : Value) (xs : List α) : Prop :=
  (∃ ad cap, v = .slice ad 0 cap ∧ xs = [] ∧ cap ≤ maxLen) ∨ ∃ b o cap c T fz, v = .slice (some ⟨b, o, none⟩) xs.length cap ∧ S.blk b = some (.cells c T fz) ∧ xs.length ≤ cap ∧ cap ≤ maxLen ∧ RL S ((c.toList.drop o).take (xs.length * Rep.z α)) xs

theorem Rv.mono {S' : Snap} {v : Value} {x : α} (hS : S.Le S') (h : Rv S v x) : Rv S' v x := let ⟨cs, a, b⟩ := h; ⟨cs, a, Rep.mono hS b⟩
theorem Pt.mono {S' : Snap} {v : Value} {x : α} (hS : S.Le S') (h : Pt S v x) : Pt S' v x := let ⟨b, o, c, T, fz, h1, h2, h3⟩ := h; ⟨b, o, c, T, fz, h1, hS.blk _ _ h2, Rep.mono hS h3⟩
theorem RL.mono {S' : Snap} {c : List Value} {xs : List α} (hS : S.Le S') (h : RL S c xs) : RL S' c xs := ⟨h.1, fun i x hx => Rep.mono hS (h.2 i x hx)⟩
theorem RSl.mono {S' : Snap} {v : Value} {xs : List α} (hS : S.Le S') (h : RSl S v xs) : RSl S' v xs :=
  h.imp id fun ⟨b, o, cap, c, T, fz, h1, h2, h3, h4, h5⟩ => ⟨b, o, cap, c, T, fz, h1, hS.blk _ _ h2, h3, h4, h5.mono hS⟩

theorem RL.one {c : List Value} {xs : List α} (h : RL S c xs) : ∀ u ∈ c, u.oneCell' = true := by
  intro u hu
  obtain ⟨j, hj, rfl⟩ := List.mem_iff_getElem.1 hu
  have hz : 0 < Rep.z α := by
    rcases Nat.eq_zero_or_pos (Rep.z α) with e | e
    · have := h.1; rw [e] at this; simp at this; subst this; simp at hj
    · exact e
  have hi : j / Rep.z α < xs.length := by rw [Nat.div_lt_iff_lt_mul hz, ← h.1]; exact hj
  have := Rep.one (h.2 (j / Rep.z α) _ (List.getElem?_eq_getElem hi))
  refine this _ (List.mem_iff_getElem?.2 ⟨j % Rep.z α, ?_⟩)
  rw [List.getElem?_take, if_pos (Nat.mod_lt _ hz), List.getElem?_drop, Nat.div_add_mod', List.getElem?_eq_getElem hj]

theorem RL.nil : RL S [] ([] : List α) := ⟨by simp, fun i x h => by simp at h⟩
theorem RL.append {c c' : List Value} {xs ys : List α} (h : RL S c xs) (h' : RL S c' ys) : RL S (c ++ c') (xs ++ ys) := by
  refine ⟨by simp [h.1, h'.1, Nat.add_mul], fun i x hx => ?_⟩
  rcases Nat.lt_or_ge i xs.length with hi | hi
  · rw [List.getElem?_append_left hi] at hx
    have hle : i * Rep.z α + Rep.z α ≤ c.length := by rw [h.1, ← Nat.succ_mul]; exact Nat.mul_le_mul_right _ hi
    rw [List.drop_append_of_le_length (by omega), List.take_append_of_le_length (by simp; omega)]
    exact h.2 i x hx
  · rw [List.getElem?_append_right hi] at hx
    have e : i * Rep.z α = c.length + (i - xs.length) * Rep.z α := by rw [h.1, ← Nat.add_mul]; congr 1; omega
    rw [e, List.drop_append, List.drop_of_length_le (by omega), List.nil_append, show c.length + (i - xs.length) * Rep.z α - c.length = (i - xs.length) * Rep.z α from by omega]
    exact h'.2 _ x hx
theorem RL.one_mk {cs : List Value} {x : α} (h : Rep.R S cs x) : RL S cs [x] := by
  refine ⟨by simp [Rep.len h], fun i y hy => ?_⟩
  match i, hy with
  | 0, hy => simp at hy; subst hy; rw [Nat.zero_mul, List.drop_zero, List.take_of_length_le (by rw [Rep.len h]; exact Nat.le_refl _)]; exact h
  | i + 1, hy => simp at hy

theorem RL.sub {c : List Value} {xs : List α} (h : RL S c xs) (i n : Nat) (hin : i + n ≤ xs.length) : RL S ((c.drop (i * Rep.z α)).take (n * Rep.z α)) ((xs.drop i).take n) := by
  have hl := h.1
  have hb : i * Rep.z α + n * Rep.z α ≤ xs.length * Rep.z α := by rw [← Nat.add_mul]; exact Nat.mul_le_mul_right _ hin
  refine ⟨by simp only [List.length_take, List.length_drop, hl]; rw [Nat.min_eq_left (by omega), Nat.min_eq_left (by omega)], fun j x hx => ?_⟩
  rw [List.getElem?_take] at hx
  split at hx
  · rename_i hj
    rw [List.getElem?_drop] at hx
    have h2 := h.2 _ x hx
    have hjz : j * Rep.z α + Rep.z α ≤ n * Rep.z α := by rw [← Nat.succ_mul]; exact Nat.mul_le_mul_right _ hj
    rw [List.drop_take, List.take_take, Nat.min_eq_left (by omega), List.drop_drop, ← Nat.add_mul]
    exact h2
  · cases hx

theorem RL.at_ {c : List Value} {xs : List α} (h : RL S c xs) (i : Nat) (hi : i < xs.length) : Rep.R S ((c.drop (i * Rep.z α)).take (Rep.z α)) xs[i] := h.2 i _ (List.getElem?_eq_getElem hi)

/-- Slices are data. -/
instance instRepList : Rep (List α) where
  z := 1
  agg := false
  R S cs x := ∃ v, cs = [v] ∧ RSl S v x
  mono hS h := let ⟨v, h1, h2⟩ := h; ⟨v, h1, h2.mono hS⟩
  len h := let ⟨v, h1, _⟩ := h; by rw [h1]; rfl
  one h := by
    obtain ⟨v, rfl, h2⟩ := h
    intro u hu
    obtain rfl : u = v := by simpa using hu
    rcases h2 with ⟨ad, cap, rfl, _⟩ | ⟨b, o, cap, c, T, fz, rfl, _⟩ <;> rfl
  z1 _ := rfl

def I64 (n : Int) : Prop := -9223372036854775808 ≤ n ∧ n ≤ 9223372036854775807

instance instRepInt : Rep Int where
  z := 1
  agg := false
  R _ cs x := cs = [.int .i64 x] ∧ I64 x
  mono _ h := h
  len h := by rw [h.1]; rfl
  one h := by rw [h.1]; intro u hu; simp at hu; subst hu; rfl
  z1 _ := rfl

instance instRepU8 : Rep UInt8 where
  z := 1
  agg := false
  R _ cs x := cs = [.int .u8 x.toNat]
  mono _ h := h
  len h := by rw [h]; rfl
  one h := by rw [h]; intro u hu; simp at hu; subst hu; rfl
  z1 _ := rfl

instance instRepBool : Rep Bool where
  z := 1
  agg := false
  R _ cs x := cs = [.bool x]
  mono _ h := h
  len h := by rw [h]; rfl
  one h := by rw [h]; intro u hu; simp at hu; subst hu; rfl
  z1 _ := rfl

/-- A string. -/
structure Str where
  b : List UInt8
  deriving DecidableEq

instance instRepStr : Rep Str where
  z := 1
  agg := false
  R _ cs x := cs = [.string ⟨x.b.toArray⟩] ∧ x.b.length ≤ maxLen
  mono _ h := h
  len h := by rw [h.1]; rfl
  one h := by rw [h.1]; intro u hu; simp at hu; subst hu; rfl
  z1 _ := rfl

/-! ### Reading data -/
class SlT (P : Program) (T : TypeId) (E : outParam TypeId) : Prop where
  u : P.underlying T = some (.slice E)

theorem range_of {b o n : Nat} {c : Array Value} {T : TypeId} {fz : Nat × Nat} (h : w.heap[b]? = some (.cells c T fz)) : w.rangeAt b o ((c.toList.drop o).take n) := by
  intro j v hv
  rw [List.getElem?_take] at hv
  split at hv
  · rw [List.getElem?_drop] at hv
    simp only [World.cell?, h]
    simpa using hv
  · cases hv

/-- 'x[i]' of a slice of data: the element's address. -/
theorem s_index {T E : TypeId} {x i : Operand} {agg : Bool} {zero : List Value} {bb : Nat} {v : Value} {xs : List α} {k : IntKind} {n : Int} (_hst : St S M w) (hx : evF l x = v) (hv : RSl S v xs) (hi : evF l i = .int k n)
    (hT : SlT P T E) (hE : Ty P E agg (Rep.z α) zero bb) (h0 : 0 ≤ n) (hn : n.toNat < xs.length)
    (h : ∀ p, Pt S p (xs[n.toNat]) → wpList P ops Q rest ⟨(l.set d p).toArray, D⟩ w) :
    wpList P ops Q (⟨some d, .indexAddr T x i, ty, pos, af, none⟩ :: rest) ⟨l.toArray, D⟩ w := by
  rcases hv with ⟨_, _, _, rfl, _⟩ | ⟨b, o, cap, c, B, fz, rfl, hb, hc, hm, hRL⟩
  · simp at hn
  · refine step_value (v := .pointer (some ⟨b, o + n.toNat * Rep.z α, none⟩)) (w' := w) ?_ (h _ ⟨b, _, c, B, fz, rfl, hb, ?_⟩)
    · have hlt : n < xs.length := by omega
      simp [execOp, hx, hi, Instr.indexAt, asIntOf, run_underlying hT.u, h0, hlt, hE.run_sizeOf, Addr.add_mid]
    · have := hRL.at_ n.toNat hn
      rw [List.drop_take, List.take_take, List.drop_drop, Nat.min_eq_left (by
        have : n.toNat * Rep.z α + Rep.z α ≤ xs.length * Rep.z α := by rw [← Nat.succ_mul]; exact Nat.mul_le_mul_right _ hn
        omega)] at this
      exact this

/-- 'load' of a datum. -/
theorem s_ldp {T : TypeId} {x : Operand} {zero : List Value} {bb : Nat} {p : Value} {y : α} (hst : St S M w) (hx : evF l x = p) (hp : Pt S p y)
    (hT : Ty P T (Rep.agg α) (Rep.z α) zero bb) (h : ∀ cs, Rep.R S cs y → wpList P ops Q rest ⟨(l.set d (vOf (Rep.agg α) cs)).toArray, D⟩ w) :
    wpList P ops Q (⟨some d, .load T x, ty, pos, af, none⟩ :: rest) ⟨l.toArray, D⟩ w := by
  obtain ⟨b, o, c, B, fz, rfl, hb, hR⟩ := hp
  refine step_value (v := vOf (Rep.agg α) ((c.toList.drop o).take (Rep.z α))) (w' := w) ?_ (h _ hR)
  simp only [execOp, hx, Sem.run_bind, run_load hT w b o _ (range_of (hst.has _ _ hb)) (Rep.len hR), Result.andThen_ok, Sem.run_pure]

/-- 'len' of a slice of data. -/
theorem s_len {T : TypeId} {E : TypeId} {x : Operand} {v : Value} {xs : List α} (hx : evF l x = v) (hv : RSl S v xs) (hT : SlT P T E)
    (h : wpList P ops Q rest ⟨(l.set d (.int .i64 xs.length)).toArray, D⟩ w) :
    wpList P ops Q (⟨some d, .call { callee := .builtin .len, args := #[x], argTypes := #[T] }, ty, pos, af, none⟩ :: rest) ⟨l.toArray, D⟩ w := by
  refine step_value (v := .int .i64 xs.length) (w' := w) ?_ h
  rcases hv with ⟨ad, cap, rfl, rfl, _⟩ | ⟨b, o, cap, c, B, fz, rfl, hb, hc, hm, hRL⟩ <;>
    simp [execOp, resolve, invoke, builtin, hx, Builtin.len_, run_underlying hT.u, goInt]
end
end Go.Sl

namespace Go.Sl
open Go.RowKit
variable {P : Program}
section
variable {ops : Array Oper} {rest : List Oper} {Q : Exit → Act → World → Prop} {l : List Value} {D : List Deferred} {w : World} {d : Tmp} {ty : TypeId} {pos : String} {af : Array Edge} {S : Snap} {M : List Chunk}

/-! ### Guards, and which operations are plain -/
theorem guard_yes {dst : Option Tmp} {op : Op} {g : Nat × Bool} {a : Act} (hg : yielded ops a.tmps g.1 = some g.2)
    (h : wpList P ops Q (⟨dst, op, ty, pos, af, none⟩ :: rest) a w) : wpList P ops Q (⟨dst, op, ty, pos, af, some g⟩ :: rest) a w := by
  unfold wpList at h ⊢
  rw [if_pos (by simp [Region.wanted, hg])]
  rw [if_pos (by simp [Region.wanted])] at h
  exact h

theorem guard_no {dst : Option Tmp} {op : Op} {g : Nat × Bool} (hg : (yielded ops l.toArray g.1 == some g.2) = false)
    (h : wpList P ops Q rest ⟨(match dst with | some t => l.set t undef | none => l).toArray, D⟩ w) : wpList P ops Q (⟨dst, op, ty, pos, af, some g⟩ :: rest) ⟨l.toArray, D⟩ w := by
  refine wpList_skip (by simpa [Region.wanted] using hg) ?_
  cases dst <;> simpa [Act.put] using h

/-- A guard whose Bool is not known yet: both ways. -/
theorem guard_cases {dst : Option Tmp} {op : Op} {j : Nat} {want t : Bool} (hy : yielded ops l.toArray j = some t)
    (h1 : t = want → wpList P ops Q (⟨dst, op, ty, pos, af, none⟩ :: rest) ⟨l.toArray, D⟩ w)
    (h2 : t = !want → wpList P ops Q rest ⟨(match dst with | some t => l.set t undef | none => l).toArray, D⟩ w) : wpList P ops Q (⟨dst, op, ty, pos, af, some (j, want)⟩ :: rest) ⟨l.toArray, D⟩ w := by
  by_cases e : t = want
  · exact guard_yes (by rw [hy, e]) (h1 e)
  · refine guard_no (by rw [hy]; simpa using e) (h2 (by cases t <;> cases want <;> simp_all))

def plainOp : Op → Bool
  | .move _ | .assign _ | .pick .. | .binOp .. | .unOp .. | .convert .. | .build .. | .extract .. | .index .. | .field .. | .makeFunc .. | .makeInterface .. | .nilCheck .. => true
  | _ => false

theorem gate {o : Oper} {a : Act} (_h : plainOp o.op = true) (g : wpList P ops Q (o :: rest) a w) : wpList P ops Q (o :: rest) a w := g
theorem is_list {o : Oper} {a : Act} (g : wpList P ops Q (o :: rest) a w) : wpList P ops Q (o :: rest) a w := g

/-! ### Products: structs -/
variable {α β γ : Type} [Rep α] [Rep β] [Rep γ]

instance instRepUnit : Rep Unit where
  z := 0
  agg := true
  R _ cs _ := cs = []
  mono _ h := h
  len h := by rw [h]; rfl
  one h := by rw [h]; intro u hu; simp at hu
  z1 h := by cases h

instance instRepProd : Rep (α × β) where
  z := Rep.z α + Rep.z β
  agg := true
  R S cs x := cs.length = Rep.z α + Rep.z β ∧ Rep.R S (cs.take (Rep.z α)) x.1 ∧ Rep.R S (cs.drop (Rep.z α)) x.2
  mono hS h := ⟨h.1, Rep.mono hS h.2.1, Rep.mono hS h.2.2⟩
  len h := h.1
  one h := by
    intro u hu
    rename_i cs x
    rw [← List.take_append_drop (Rep.z α) cs] at hu
    rcases List.mem_append.1 hu with hu | hu
    · exact Rep.one h.2.1 u hu
    · exact Rep.one h.2.2 u hu
  z1 h := by cases h

theorem prod_mk {cs cs' : List Value} {x : α} {y : β} (h : Rep.R S cs x) (h' : Rep.R S cs' y) : Rep.R S (cs ++ cs') (x, y) := by
  have e := Rep.len h
  refine ⟨by rw [List.length_append, e, Rep.len h'], ?_, ?_⟩
  · rw [← e, List.take_left]; exact h
  · rw [← e, List.drop_left]; exact h'

theorem unit_mk : Rep.R S [] () := rfl

/-- Field k of a struct: where it lies, how it is read and written. -/
class HasF (α : Type) [Rep α] (k : Nat) (β : outParam Type) [outParam (Rep β)] (off : outParam Nat) (get : outParam (α → β)) (put : outParam (α → β → α)) : Prop where
  le : off + Rep.z β ≤ Rep.z α
  rd : ∀ {S : Snap} {cs : List Value} {x : α}, Rep.R S cs x → Rep.R S ((cs.drop off).take (Rep.z β)) (get x)
  wr : ∀ {S : Snap} {cs vs : List Value} {x : α} {y : β}, Rep.R S cs x → Rep.R S vs y → Rep.R S (cs.take off ++ vs ++ cs.drop (off + Rep.z β)) (put x y)

instance instHasF0 : HasF (α × β) 0 α 0 (fun x => x.1) (fun x y => (y, x.2)) where
  le := by show 0 + Rep.z α ≤ Rep.z α + Rep.z β; omega
  rd h := by simpa using h.2.1
  wr h h' := by simpa using prod_mk h' h.2.2

instance instHasFS {k off : Nat} {get : β → γ} {put : β → γ → β} [inst : HasF β k γ off get put] : HasF (α × β) (k + 1) γ (Rep.z α + off) (fun x => get x.2) (fun x y => (x.1, put x.2 y)) where
  le := by have := inst.le; show Rep.z α + off + Rep.z γ ≤ Rep.z α + Rep.z β; omega
  rd h := by
    have := inst.rd h.2.2
    rwa [List.drop_drop] at this
  wr h h' := by
    rename_i S cs vs x y
    have h2 := inst.wr h.2.2 h'
    have h1 : Rep.R S (cs.take (Rep.z α)) x.1 := h.2.1
    have := prod_mk h1 h2
    have hl : cs.length = Rep.z α + Rep.z β := h.1
    have e : cs.take (Rep.z α + off) ++ vs ++ cs.drop (Rep.z α + off + Rep.z γ) = cs.take (Rep.z α) ++ ((cs.drop (Rep.z α)).take off ++ vs ++ (cs.drop (Rep.z α)).drop (off + Rep.z γ)) := by
      rw [List.take_add, List.drop_drop, ← Nat.add_assoc]
      simp only [List.append_assoc]
    rw [e]
    exact this

/-- Fixed arrays. -/
structure Arr (α : Type) (n : Nat) where
  l : List α
  deriving DecidableEq

instance instRepArr {n : Nat} : Rep (Arr α n) where
  z := n * Rep.z α
  agg := true
  R S cs x := x.l.length = n ∧ RL S cs x.l
  mono hS h := ⟨h.1, h.2.mono hS⟩
  len h := by rw [h.2.1, h.1]
  one h := h.2.one
  z1 h := by cases h

/-! ### Addresses of fields and of an array's elements -/
/-- Where field k of T lies; T a struct, the field not empty. -/
def fldOff (P : Program) (T : TypeId) (k : Nat) : Option Nat :=
  match P.underlying T with
  | some (.struct fs) => match fs[k]? with
    | some f => match (P.info? f.type).map (·.size) with
      | some (_ + 1) => some f.offset
      | _ => none
    | none => none
  | _ => none

class FldT (P : Program) (T : TypeId) (k : Nat) (off : outParam Nat) : Prop where
  ok : fldOff P T k = some off

theorem run_fieldAt {T : TypeId} {k off : Nat} (h : FldT P T k off) (b o : Nat) : (Instr.fieldAt T (.pointer (some ⟨b, o, none⟩)) k).run P w = .ok (.pointer (some ⟨b, o + off, none⟩)) w := by
  have hk := h.ok
  unfold fldOff at hk
  split at hk
  · rename_i fs h1
    split at hk
    · rename_i f h2
      split at hk
      · rename_i m h3
        cases hk
        cases hi : P.info? f.type with
        | none => simp [hi] at h3
        | some i =>
          have h4 : i.size ≠ 0 := by simp [hi] at h3; omega
          simp [Instr.fieldAt, run_underlying h1, h2, Instr.sureAddr, fieldPlace, sizeOf, typeInfo, hi, h4, Addr.add_mid]
      · cases hk
    · cases hk
  · cases hk

theorem s_field {T : TypeId} {k off : Nat} {x : Operand} {b o : Nat} (hx : evF l x = .pointer (some ⟨b, o, none⟩)) (hT : FldT P T k off)
    (h : wpList P ops Q rest ⟨(l.set d (.pointer (some ⟨b, o + off, none⟩))).toArray, D⟩ w) :
    wpList P ops Q (⟨some d, .fieldAddr T x k, ty, pos, af, none⟩ :: rest) ⟨l.toArray, D⟩ w := by
  refine step_value (w' := w) ?_ h
  simp only [execOp, hx, Sem.run_bind, run_fieldAt hT, Result.andThen_ok, Sem.run_pure]

theorem Pt.field {k : Nat} {off : Nat} {get : α → β} {put : α → β → α} [i : HasF α k β off get put] {b o : Nat} {x : α} (h : Pt S (.pointer (some ⟨b, o, none⟩)) x) :
    Pt S (.pointer (some ⟨b, o + off, none⟩)) (get x) := by
  obtain ⟨b', o', c, T, fz, h1, h2, h3⟩ := h
  simp only [Value.pointer.injEq, Option.some.injEq, Addr.mk.injEq, and_true] at h1
  obtain ⟨rfl, rfl⟩ := h1
  refine ⟨b, _, c, T, fz, rfl, h2, ?_⟩
  have := i.rd h3
  rw [List.drop_take, List.take_take, List.drop_drop, Nat.min_eq_left (by have := i.le; omega)] at this
  exact this

/-- The address of a datum's field. -/
theorem s_fieldp {T : TypeId} {k off off' : Nat} {get : α → β} {put : α → β → α} {x : Operand} {p : Value} {y : α} (hx : evF l x = p) (hp : Pt S p y) (hT : FldT P T k off) (_hF : HasF α k β off' get put) (ho : off = off')
    (h : ∀ q, Pt S q (get y) → wpList P ops Q rest ⟨(l.set d q).toArray, D⟩ w) :
    wpList P ops Q (⟨some d, .fieldAddr T x k, ty, pos, af, none⟩ :: rest) ⟨l.toArray, D⟩ w := by
  subst ho
  obtain ⟨b, o, c, B, fz, rfl, hb, hR⟩ := id hp
  exact s_field hx hT (h _ (Pt.field (k := k) (put := put) hp))

class ArrT (P : Program) (T : TypeId) (n : outParam Nat) (E : outParam TypeId) : Prop where
  u : P.underlying T = some (.array n E)

theorem s_indexA {T E : TypeId} {n : Nat} {x i : Operand} {agg : Bool} {z : Nat} {zero : List Value} {bb : Nat} {b o : Nat} {k : IntKind} {j : Int} (hx : evF l x = .pointer (some ⟨b, o, none⟩)) (hi : evF l i = .int k j)
    (hT : ArrT P T n E) (hE : Ty P E agg z zero bb) (h0 : 0 ≤ j) (hn : j.toNat < n)
    (h : wpList P ops Q rest ⟨(l.set d (.pointer (some ⟨b, o + j.toNat * z, none⟩))).toArray, D⟩ w) :
    wpList P ops Q (⟨some d, .indexAddr T x i, ty, pos, af, none⟩ :: rest) ⟨l.toArray, D⟩ w := by
  refine step_value (w' := w) ?_ h
  have hlt : j < n := by omega
  simp [execOp, hx, hi, Instr.indexAt, asIntOf, run_underlying hT.u, Instr.sureAddr, h0, hlt, hE.run_sizeOf, Addr.add_mid]

theorem Pt.elem {n : Nat} {b o : Nat} {x : Arr α n} (h : Pt S (.pointer (some ⟨b, o, none⟩)) x) (j : Nat) (hj : j < x.l.length) : Pt S (.pointer (some ⟨b, o + j * Rep.z α, none⟩)) x.l[j] := by
  obtain ⟨b', o', c, T, fz, h1, h2, h3⟩ := h
  simp only [Value.pointer.injEq, Option.some.injEq, Addr.mk.injEq, and_true] at h1
  obtain ⟨rfl, rfl⟩ := h1
  refine ⟨b, _, c, T, fz, rfl, h2, ?_⟩
  have := h3.2.at_ j hj
  rw [List.drop_take, List.take_take, List.drop_drop, Nat.min_eq_left (by
    have e : j * Rep.z α + Rep.z α ≤ n * Rep.z α := by rw [← Nat.succ_mul]; exact Nat.mul_le_mul_right _ (h3.1 ▸ hj)
    show Rep.z α ≤ n * Rep.z α - j * Rep.z α
    omega)] at this
  exact this

theorem s_indexAp {T E : TypeId} {n m : Nat} {x i : Operand} {agg : Bool} {zero : List Value} {bb : Nat} {p : Value} {y : Arr α m} {k : IntKind} {j : Int} (hx : evF l x = p) (hp : Pt S p y) (hi : evF l i = .int k j)
    (hT : ArrT P T n E) (hE : Ty P E agg (Rep.z α) zero bb) (hm : n = m) (h0 : 0 ≤ j) (hn : j.toNat < y.l.length)
    (h : ∀ q, Pt S q y.l[j.toNat] → wpList P ops Q rest ⟨(l.set d q).toArray, D⟩ w) :
    wpList P ops Q (⟨some d, .indexAddr T x i, ty, pos, af, none⟩ :: rest) ⟨l.toArray, D⟩ w := by
  subst hm
  obtain ⟨b, o, c, B, fz, rfl, hb, hR⟩ := id hp
  exact s_indexA hx hi hT hE h0 (hR.1 ▸ hn) (h _ (Pt.elem hp _ hn))
end
end Go.Sl

/- Rules of a small separation logic over the model's worlds. General over the program. -/
namespace Go.Sl
set_option linter.unusedSimpArgs false
set_option linter.unusedVariables false
open Go.RowKit
variable {P : Program}
section
variable {ops : Array Oper} {rest : List Oper} {Q : Exit → Act → World → Prop} {l : List Value} {D : List Deferred} {w : World} {d : Tmp} {ty : TypeId} {pos : String} {af : Array Edge} {S : Snap} {M : List Chunk}
variable {α : Type} [Rep α]

/-! ### Own slices -/
theorem setCells_other (b : Nat) : ∀ (vs : List Value) (o : Nat) (w : World) (k : Nat), k ≠ b → (w.setCells b o vs).heap[k]? = w.heap[k]?
  | [], _, _, _, _ => rfl
  | v :: r, o, w, k, h => by rw [World.setCells, setCells_other b r (o + 1) _ k h, Below.heap_setCell _ _ _ _ h]

theorem setCells_size (b : Nat) : ∀ (vs : List Value) (o : Nat) (w : World), (w.setCells b o vs).heap.size = w.heap.size
  | [], _, _ => rfl
  | v :: r, o, w => by rw [World.setCells, setCells_size b r (o + 1) _]; simp [World.setCell]

theorem setCells_world (b : Nat) : ∀ (vs : List Value) (o : Nat) (w : World), (w.setCells b o vs).os = w.os ∧ (w.setCells b o vs).tape = w.tape ∧ (w.setCells b o vs).output = w.output
  | [], _, _ => ⟨rfl, rfl, rfl⟩
  | v :: r, o, w => by rw [World.setCells]; exact setCells_world b r (o + 1) _

theorem setCells_at (b : Nat) (T : TypeId) (fz : Nat × Nat) : ∀ (vs : List Value) (o : Nat) (w : World) (cur : List Value), w.heap[b]? = some (.cells cur.toArray T fz) → o + vs.length ≤ cur.length →
    (w.setCells b o vs).heap[b]? = some (.cells (cur.take o ++ vs ++ cur.drop (o + vs.length)).toArray T fz)
  | [], o, w, cur, h, _ => by simp only [World.setCells, List.append_nil, List.length_nil, Nat.add_zero, List.take_append_drop]; exact h
  | v :: r, o, w, cur, h, hl => by
    simp only [List.length_cons] at hl
    have h1 : (w.setCell ⟨b, o, none⟩ v).heap[b]? = some (.cells (cur.set o v).toArray T fz) := by
      have hlt := (Array.getElem?_eq_some_iff.1 h).1
      have hv := (Array.getElem?_eq_some_iff.1 h).2
      simp only [World.setCell]
      rw [Array.getElem?_modify, if_pos rfl, h]
      simp
    rw [World.setCells, setCells_at b T fz r (o + 1) _ (cur.set o v) h1 (by simp; omega)]
    congr 3
    have ho : o < cur.length := by omega
    rw [List.set_eq_take_append_cons_drop, if_pos ho]
    have hlt : (cur.take o).length = o := by simp; omega
    rw [show (cur.take o ++ v :: cur.drop (o + 1)).take (o + 1) = cur.take o ++ [v] from by
      rw [List.take_append, hlt, List.take_of_length_le (by omega), show o + 1 - o = 1 from by omega]; simp]
    rw [show (cur.take o ++ v :: cur.drop (o + 1)).drop (o + 1 + r.length) = cur.drop (o + (r.length + 1)) from by
      rw [List.drop_append, hlt, List.drop_of_length_le (by omega), show o + 1 + r.length - o = r.length + 1 from by omega]
      simp only [List.nil_append, List.drop_succ_cons, List.drop_drop]
      congr 1; omega]
    simp

theorem OwnS.nil (w : World) (T : TypeId) (z : Nat) : OwnS w T z (.slice none 0 0) 0 [] := ⟨by simp, .inl ⟨rfl, rfl⟩⟩

theorem St.nil (h : St S M w) (T : TypeId) (z : Nat) : St S (.sl (.slice none 0 0) T z 0 [] :: M) w :=
  ⟨h.os, h.tape, h.output, h.has, fun d hd => by
    rcases List.mem_cons.1 hd with rfl | hd
    · exact OwnS.nil w T z
    · exact h.at_ d hd, fun d hd b hb => by
    rcases List.mem_cons.1 hd with rfl | hd
    · simp [Chunk.own, Value.ownBlock] at hb
    · exact h.out d hd b hb, List.pairwise_cons.2 ⟨fun d _ b hb => by simp [Chunk.own, Value.ownBlock] at hb, h.apart⟩⟩

/-- A new row as an own slice. -/
theorem St.new_sl {n cap z : Nat} {c : List Value} {T : TypeId} {fz : Nat × Nat} {cur : Array Value} {w' : World} (h : St S M w) (hos : w'.os = w.os) (hta : w'.tape = w.tape) (hou : w'.output = w.output)
    (old : ∀ b, b < w.heap.size → w'.heap[b]? = w.heap[b]?) (hnew : w'.heap[w.heap.size]? = some (.cells cur T fz))
    (hc : c.length = n * z) (hfz : ∀ j, j < cur.size → ¬ (fz.1 ≤ j ∧ j < fz.2)) (hn : n ≤ cap) (hm : cap ≤ maxLen)
    (hs : cap * z ≤ cur.size) (ht : cur.toList.take (n * z) = c) : St S (.sl (.slice (some ⟨w.heap.size, 0, none⟩) n cap) T z n c :: M) w' := by
  refine ⟨hos.trans h.os, hta.trans h.tape, hou.trans h.output, fun b o e => ?_, fun d hd => ?_, fun d hd b hb => ?_, List.pairwise_cons.2 ⟨fun d hd b hb hd' => ?_, h.apart⟩⟩
  · have := h.has b o e
    rw [old b (Array.getElem?_eq_some_iff.1 this).1]; exact this
  · rcases List.mem_cons.1 hd with rfl | hd
    · exact ⟨hc, .inr ⟨_, cap, cur, fz, rfl, hnew, hfz, hn, hm, hs, ht⟩⟩
    · exact Chunk.at_of_block (h.at_ d hd) fun b hb => old b (Chunk.lt (h.at_ d hd) b hb)
  · rcases List.mem_cons.1 hd with rfl | hd
    · obtain rfl : w.heap.size = b := by simpa [Chunk.own, Value.ownBlock] using hb
      cases e : S.blk w.heap.size with
      | none => rfl
      | some o => have := (Array.getElem?_eq_some_iff.1 (h.has _ _ e)).1; omega
    · exact h.out d hd b hb
  · obtain rfl : w.heap.size = b := by simpa [Chunk.own, Value.ownBlock] using hb
    have := Chunk.lt (h.at_ d hd) _ hd'; omega

theorem St.alloc_sl {n cap z : Nat} {c : List Value} {T : TypeId} {fz : Nat × Nat} {cur : Array Value} (h : St S M w) (hc : c.length = n * z) (hfz : ∀ j, j < cur.size → ¬ (fz.1 ≤ j ∧ j < fz.2)) (hn : n ≤ cap) (hm : cap ≤ maxLen)
    (hs : cap * z ≤ cur.size) (ht : cur.toList.take (n * z) = c) : St S (.sl (.slice (some ⟨w.heap.size, 0, none⟩) n cap) T z n c :: M) (w.alloc (.cells cur T fz)) :=
  h.new_sl rfl rfl rfl (fun _ hb => Below.heap_alloc _ _ _ hb) (heap_alloc_new w _) hc hfz hn hm hs ht

/-- An own slice is given away: from now on it never changes. -/
theorem St.freeze {v : Value} {T : TypeId} {xs : List α} {c : List Value} {n : Nat} (h : St S (.sl v T (Rep.z α) n c :: M) w) (hc : RL S c xs) (hn : n = xs.length) :
    ∃ S', S.Le S' ∧ St S' M w ∧ RSl S' v xs := by
  subst hn
  have h0 := h.at_ _ (.head _)
  have hap := List.pairwise_cons.1 h.apart
  rcases h0.2 with ⟨rfl, hn⟩ | ⟨g, cap, cur, fz, rfl, hg, hfz, hnc, hm, hs, ht⟩
  · exact ⟨S, Snap.Le.refl S, h.drop, .inl ⟨none, 0, rfl, List.eq_nil_of_length_eq_zero hn, by simp [maxLen]⟩⟩
  · have hn := h.out _ (.head _) g (by simp [Chunk.own, Value.ownBlock])
    have hle : S.Le (S.with g (.cells cur T fz)) := Snap.le_with hn
    refine ⟨S.with g (.cells cur T fz), hle, ⟨h.os, h.tape, h.output, fun k o e => ?_, fun d hd => h.at_ d (.tail _ hd), fun d hd k hk => ?_, hap.2⟩, .inr ⟨g, 0, cap, cur, T, fz, rfl, by simp [Snap.with], hnc, hm, ?_⟩⟩
    · simp only [Snap.with] at e
      split at e
      · rename_i hkb; rw [hkb]; rw [← Option.some.inj e]; exact hg
      · exact h.has k o e
    · simp only [Snap.with]
      split
      · rename_i hkb; rw [hkb] at hk; exact (hap.1 d hd g (by simp [Chunk.own, Value.ownBlock]) hk).elim
      · exact h.out d (.tail _ hd) k hk
    · rw [List.drop_zero, ht]; exact hc.mono hle

theorem grownCap_big (w : World) (need old : Nat) (e : TypeId) : need ≤ grownCap w need old e := grownCap_ge w need old e

/-- 'append': the own slice at place k grows by the cells news, whatever they come from. -/
theorem run_append {k : Nat} {v x : Value} {t tx ty E : TypeId} {agg : Bool} {z n m : Nat} {zero c news : List Value} {bb : Nat} (hst : St S M w) (hk : M[k]? = some (.sl v E z n c)) (hT : SlT P t E) (hE : Ty P E agg z zero bb)
    (hs : Src P z tx x m news w) (hb : (n + m) * bb ≤ 140737488355328) (hm : n + m ≤ 140737488355328) (_hz : 0 < z) :
    ∃ v' w', (Builtin.append_ #[t, tx] ty #[v, x]).run P w = .ok v' w' ∧ St S (M.set k (.sl v' E z (n + m) (c ++ news))) w' := by
  obtain ⟨i, hi, hiz, his, hib⟩ := hE.run_bytes
  have hmv := hst.move hk
  have h0 := hmv.at_ _ (.head _)
  have hcl : (c ++ news).length = (n + m) * z := by rw [List.length_append, h0.1, hs.newsLen, Nat.add_mul]
  have hzero : (vOf agg zero).cells.size = z := by rw [← hE.len_, ← Array.length_toList, hE.cells_]
  have hzcs : ∀ q, (Builtin.zeroCells (vOf agg zero).cells q).size = q * z := fun q => by rw [size_zeroCells, hzero]
  -- the arm that grows
  have grow : ∀ (base : Option Addr) (cap : Nat), (Builtin.firstCells i.size n (.slice base n cap)).run P w.drew = .ok c.toArray w.drew → cap < n + m → v = .slice base n cap →
      ∃ v' w', (Builtin.append_ #[t, tx] ty #[v, x]).run P w = .ok v' w' ∧ St S (M.set k (.sl v' E z (n + m) (c ++ news))) w' := by
    intro base cap hold hg hv
    have hfit := growslice_fits (need := n + m) (old := cap) (bytes := i.bytes) hg (by rw [hib]; exact hb)
    have hr := run_append_grow_src (P := P) w t tx ty E i (vOf agg zero) hT.u hi hiz base n cap c hold x m news (his ▸ hs) hg (by omega) hfit
    subst hv
    refine ⟨_, _, hr, ?_⟩
    have hge := grownCap_ge w (n + m) cap E
    have hcm := grownCap_le_maxLen w (n + m) cap E (by simp only [maxLen]; omega)
    have hal := (St.drew (hmv.drop)).alloc_sl (n := n + m) (cap := grownCap w (n + m) cap E) (z := z) (c := c ++ news) (T := E) (fz := (0, 0))
      (cur := (c ++ news).toArray ++ Builtin.zeroCells (vOf agg zero).cells (grownCap w (n + m) cap E - (n + m))) hcl (fun j _ => by simp) hge hcm
      (by simp only [Array.size_append, List.size_toArray, hcl, hzcs, ← Nat.add_mul]; exact Nat.mul_le_mul_right _ (by omega))
      (by rw [Array.toList_append, List.take_append, List.take_of_length_le (by simp [hcl])]; simp [hcl])
    exact St.back hk hal
  rcases h0.2 with ⟨rfl, rfl⟩ | ⟨g, cap, cur, fz, rfl, hg, hfz, hnc, hcm, hcs, htk⟩
  · have hc0 : c = [] := List.eq_nil_of_length_eq_zero (by simpa using h0.1)
    subst hc0
    by_cases hm0 : m = 0
    · subst hm0
      have hnews : news = [] := List.eq_nil_of_length_eq_zero (by simpa using hs.newsLen)
      subst hnews
      refine ⟨.slice none 0 0, w, ?_, ?_⟩
      · have hcells := hs.cells
        rcases hs.kind with ⟨e', hkk⟩ | hkk <;> simp [Builtin.append_, run_underlying hT.u, run_underlying hkk, sizeOf, typeInfo, hi, his, hs.len, hcells]
      · exact St.back hk (by simpa using hmv)
    · exact grow none 0 (by rw [run_firstCells_none]) (by omega) rfl
  · by_cases hroom : n + m ≤ cap
    · have hfit : n * z + news.length ≤ cur.size := by rw [hs.newsLen, ← Nat.add_mul]; exact Nat.le_trans (Nat.mul_le_mul_right _ hroom) hcs
      have hcell : ∀ j, j < news.length → (w.cell? ⟨g, n * z + j, none⟩).isSome = true := fun j hj => by
        have hlt : n * z + j < cur.size := by omega
        simp only [World.cell?, hg]
        simp [hlt]
      have hfro : ∀ j, j < news.length → w.frozen? ⟨g, n * z + j, none⟩ = false := fun j hj => by
        have := hfz (n * z + j) (by omega)
        simp only [World.frozen?, hg]
        simpa using this
      have hr := run_append_room_src (P := P) w t tx ty E i hT.u hi g 0 n cap x m news (his ▸ hs) hroom (by simpa [his] using hcell) (by simpa [his] using hfro)
      refine ⟨_, _, hr, ?_⟩
      have hat := setCells_at g E fz news (n * z) w cur.toList (by simpa using hg) (by simpa using hfit)
      obtain ⟨e1, e2, e3⟩ := setCells_world g news (n * z) w
      rw [Nat.zero_add, his]
      refine St.back hk (hmv.set e1 e2 e3 ⟨hcl, .inr ⟨g, cap, _, fz, rfl, hat, ?_, hroom, hcm, ?_, ?_⟩⟩ (fun b hb => .inl hb) (fun b _ hne => setCells_other g news _ w b (fun e => hne (by simp [Chunk.own, Value.ownBlock, e]))))
      · intro j hj
        refine hfz j ?_
        simp only [List.size_toArray, List.length_append, List.length_take, List.length_drop, Array.length_toList] at hj
        omega
      · simp only [List.size_toArray, List.length_append, List.length_take, List.length_drop, Array.length_toList]
        omega
      · simp only []
        rw [htk, List.append_assoc, ← List.append_assoc, Nat.add_mul, ← hs.newsLen]
        rw [List.take_append, List.take_of_length_le (by simp [h0.1])]
        simp [h0.1]
    · refine grow (some ⟨g, 0, none⟩) cap ?_ (by omega) rfl
      refine run_firstCells_some w.drew i.size n ⟨g, 0, none⟩ n cap c (by rw [his]; exact h0.1) (fun j u hu => ?_)
      rw [Addr.add_mid, Nat.zero_add]
      simp only [World.cell?, show w.drew.heap[g]? = w.heap[g]? from rfl, hg]
      rw [← htk, List.getElem?_take] at hu
      split at hu
      · simpa using hu
      · cases hu

/-! What is appended -/
theorem Src.own {j : Nat} {v : Value} {T tx e' : TypeId} {z n : Nat} {c : List Value} (hst : St S M w) (hj : M[j]? = some (.sl v T z n c)) (h1 : ∀ u ∈ c, u.oneCell' = true) (hk : P.underlying tx = some (.slice e')) : Src P z tx v n c w := by
  have h := hst.get hj
  rcases h.2 with ⟨rfl, rfl⟩ | ⟨g, cap, cur, fz, rfl, hg, hfz, hnc, hcm, hcs, htk⟩
  · obtain rfl : c = [] := List.eq_nil_of_length_eq_zero (by simpa using h.1)
    exact Src.ofNil w hk 0
  · refine Src.ofSlice w hk _ _ _ _ h.1 (fun j u hu => ?_) h1
    rw [Addr.add_mid, Nat.zero_add]
    simp only [World.cell?, hg]
    rw [← htk, List.getElem?_take] at hu
    split at hu
    · simpa using hu
    · cases hu

theorem Src.data {v : Value} {xs : List α} {tx e' : TypeId} (hst : St S M w) (hv : RSl S v xs) (hk : P.underlying tx = some (.slice e')) : ∃ c, Src P (Rep.z α) tx v xs.length c w ∧ RL S c xs := by
  rcases hv with ⟨ad, cap, rfl, rfl, _⟩ | ⟨b, o, cap, c, T, fz, rfl, hb, hc, hm, hRL⟩
  · refine ⟨[], ?_, RL.nil⟩
    cases ad with
    | none => exact Src.ofNil w hk cap
    | some ad => exact Src.ofSlice w hk ad 0 cap [] (by simp) (fun j u hu => by simp at hu) (fun u hu => by simp at hu)
  · refine ⟨_, Src.ofSlice w hk _ _ _ _ hRL.1 (fun j u hu => ?_) hRL.one, hRL⟩
    rw [Addr.add_mid]
    exact range_of (hst.has _ _ hb) j u hu

/-- 'append(x, y...)' onto an own slice, y another own slice (a temporary that is given up). -/
theorem s_append {k j : Nat} {x y : Operand} {v u : Value} {t tx E e' F : TypeId} {agg : Bool} {z n m : Nat} {zero c c' : List Value} {bb : Nat} (hst : St S M w) (hx : evF l x = v) (hy : evF l y = u) (hk : M[k]? = some (.sl v E z n c)) (hj : M[j]? = some (.sl u F z m c'))
    (hT : SlT P t E) (hE : Ty P E agg z zero bb) (hU : SlT P tx e') (h1 : ∀ q ∈ c', q.oneCell' = true) (hb : (n + m) * bb ≤ 140737488355328) (hm : n + m ≤ 140737488355328) (hz : 0 < z)
    (h : ∀ v' w', St S ((M.set k (.sl v' E z (n + m) (c ++ c')))) w' → wpList P ops Q rest ⟨(l.set d v').toArray, D⟩ w') :
    wpList P ops Q (⟨some d, .call { callee := .builtin .append, args := #[x, y], argTypes := #[t, tx] }, ty, pos, af, none⟩ :: rest) ⟨l.toArray, D⟩ w := by
  obtain ⟨v', w', hr, hst'⟩ := run_append (P := P) (ty := ty) hst hk hT hE (Src.own hst hj h1 hU.u) hb hm hz
  refine step_value ?_ (h v' w' hst')
  simp [execOp, resolve, invoke, builtin, hx, hy, hr]

/-- 'append(x, y...)', y data. -/
theorem s_append_data {k : Nat} {x y : Operand} {v u : Value} {t tx E e' : TypeId} {agg : Bool} {n : Nat} {zero c : List Value} {xs : List α} {bb : Nat} (hst : St S M w) (hx : evF l x = v) (hy : evF l y = u) (hk : M[k]? = some (.sl v E (Rep.z α) n c)) (hu : RSl S u xs)
    (hT : SlT P t E) (hE : Ty P E agg (Rep.z α) zero bb) (hU : SlT P tx e') (hb : (n + xs.length) * bb ≤ 140737488355328) (hm : n + xs.length ≤ 140737488355328) (hz : 0 < Rep.z α)
    (h : ∀ v' w' c', RL S c' xs → St S ((M.set k (.sl v' E (Rep.z α) (n + xs.length) (c ++ c')))) w' → wpList P ops Q rest ⟨(l.set d v').toArray, D⟩ w') :
    wpList P ops Q (⟨some d, .call { callee := .builtin .append, args := #[x, y], argTypes := #[t, tx] }, ty, pos, af, none⟩ :: rest) ⟨l.toArray, D⟩ w := by
  obtain ⟨c', hs, hc'⟩ := Src.data (P := P) hst hu hU.u
  obtain ⟨v', w', hr, hst'⟩ := run_append (P := P) (ty := ty) hst hk hT hE hs hb hm hz
  refine step_value ?_ (h v' w' c' hc' hst')
  simp [execOp, resolve, invoke, builtin, hx, hy, hr]

def u8s (b : List UInt8) : List Value := b.map fun x => .int .u8 x.toNat

theorem RL.of_u8s (b : List UInt8) : RL S (Sl.u8s b) b := by
  refine ⟨by simp [Sl.u8s, Rep.z], fun i x hx => ?_⟩
  show _ = _
  rw [show Rep.z UInt8 = 1 from rfl, Nat.mul_one]
  apply List.ext_getElem?
  intro j
  rw [List.getElem?_take, List.getElem?_drop]
  cases j with
  | zero => simp [Sl.u8s, hx]
  | succ j => simp

theorem RL.eq_u8s {c : List Value} {b : List UInt8} (h : RL S c b) : c = u8s b := by
  apply List.ext_getElem?
  intro j
  simp only [Sl.u8s, List.getElem?_map]
  have hl : c.length = b.length := by simpa [Rep.z] using h.1
  cases hb : b[j]? with
  | none => simp only [Option.map_none]; rw [List.getElem?_eq_none_iff] at hb ⊢; omega
  | some x =>
    have := h.2 j x hb
    have h2 : (c.drop (j * Rep.z UInt8)).take (Rep.z UInt8) = [.int .u8 x.toNat] := this
    rw [show Rep.z UInt8 = 1 from rfl, Nat.mul_one] at h2
    have h3 := congrArg (·[0]?) h2
    simpa [List.getElem?_take, List.getElem?_drop] using h3

/-- 'append(x, s...)', s a string. -/
theorem s_append_str {k : Nat} {x y : Operand} {v : Value} {t tx E : TypeId} {agg : Bool} {n : Nat} {zero c : List Value} {b : List UInt8} {bb : Nat} (hst : St S M w) (hx : evF l x = v) (hy : evF l y = .string ⟨b.toArray⟩) (hk : M[k]? = some (.sl v E 1 n c))
    (hT : SlT P t E) (hE : Ty P E agg 1 zero bb) (hU : P.underlying tx = some .string) (hb : (n + b.length) * bb ≤ 140737488355328) (hm : n + b.length ≤ 140737488355328)
    (h : ∀ v' w', St S ((M.set k (.sl v' E 1 (n + b.length) (c ++ u8s b)))) w' → wpList P ops Q rest ⟨(l.set d v').toArray, D⟩ w') :
    wpList P ops Q (⟨some d, .call { callee := .builtin .append, args := #[x, y], argTypes := #[t, tx] }, ty, pos, af, none⟩ :: rest) ⟨l.toArray, D⟩ w := by
  have hs : Src P 1 tx (.string ⟨b.toArray⟩) b.length (u8s b) w := by
    have := Src.ofString (P := P) w hU ⟨b.toArray⟩
    simpa [byteCells, u8s, ByteArray.size] using this
  obtain ⟨v', w', hr, hst'⟩ := run_append (P := P) (ty := ty) hst hk hT hE hs hb hm (by omega)
  refine step_value ?_ (h v' w' hst')
  simp [execOp, resolve, invoke, builtin, hx, hy, hr]
end
end Go.Sl

/- Rules of a small separation logic over the model's worlds. General over the program. -/
namespace Go.Sl
set_option linter.unusedSimpArgs false
set_option linter.unusedVariables false
open Go.RowKit
variable {P : Program}
section
variable {ops : Array Oper} {rest : List Oper} {Q : Exit → Act → World → Prop} {l : List Value} {D : List Deferred} {w : World} {d : Tmp} {ty : TypeId} {pos : String} {af : Array Edge} {S : Snap} {M : List Chunk}
variable {α : Type} [Rep α]

/-! ### Slicing -/
/-- A bound of a slice expression: absent (then dflt), or a number. -/
def Bd (o : Option Value) (dflt n : Nat) : Prop := (o = none ∧ n = dflt) ∨ ∃ k, o = some (.int k (n : Int))

theorem Bd.run {o : Option Value} {dflt n y : Nat} {c : BoundsCode} (h : Bd o dflt n) (hy : n ≤ y) :
    (match o with | some v => Instr.sliceBound v y c | none => (pure dflt : Sem Nat)).run P w = .ok n w := by
  rcases h with ⟨rfl, rfl⟩ | ⟨k, rfl⟩
  · rfl
  · have : (n : Int) ≤ y := by omega
    simp [Instr.sliceBound, asIntOf, this]

theorem run_bounds {lo hi mx : Option Value} {len cap a b m : Nat} (hl : Bd lo 0 a) (hh : Bd hi len b) (hm : Bd mx cap m) (h1 : a ≤ b) (h2 : b ≤ m) (h3 : m ≤ cap) (hx : mx.isSome = true → hi.isSome = true) (sl : Bool) :
    (Instr.sliceBounds sl len cap lo hi mx).run P w = .ok (a, b, m) w := by
  rcases hm with ⟨rfl, rfl⟩ | ⟨km, rfl⟩
  · rcases hh with ⟨rfl, rfl⟩ | ⟨kh, rfl⟩
    · rcases hl with ⟨rfl, rfl⟩ | ⟨kl, rfl⟩ <;> simp [Instr.sliceBounds, Instr.sliceBound, asIntOf, h1]
    · rcases hl with ⟨rfl, rfl⟩ | ⟨kl, rfl⟩ <;> simp [Instr.sliceBounds, Instr.sliceBound, asIntOf, h1, h2]
  · rcases hh with ⟨rfl, rfl⟩ | ⟨kh, rfl⟩
    · simp at hx
    · rcases hl with ⟨rfl, rfl⟩ | ⟨kl, rfl⟩ <;> simp [Instr.sliceBounds, Instr.sliceBound, asIntOf, h1, h2, h3]

theorem run_sliceAt {T E : TypeId} {agg : Bool} {z : Nat} {zero : List Value} {bb : Nat} (hT : SlT P T E) (hE : Ty P E agg z zero bb) {lo hi mx : Option Value} {ad : Option Addr} {len cap a b m : Nat} (hl : Bd lo 0 a) (hh : Bd hi len b) (hm : Bd mx cap m)
    (h1 : a ≤ b) (h2 : b ≤ m) (h3 : m ≤ cap) (hx : mx.isSome = true → hi.isSome = true) :
    (Instr.sliceAt T (.slice ad len cap) lo hi mx).run P w = .ok (.slice (if m = a then ad else ad.map (·.add (a * z))) (b - a) (m - a)) w := by
  simp [Instr.sliceAt, run_underlying hT.u, Instr.slice, run_bounds hl hh hm h1 h2 h3 hx, hE.run_sizeOf]

/-- The same as data: a part of the list. -/
theorem RSl.sub {v : Value} {xs : List α} {ad : Option Addr} {len cap : Nat} (hv : RSl S v xs) (e : v = .slice ad len cap) (a b m : Nat) (h1 : a ≤ b) (h2 : b ≤ xs.length) (h3 : b ≤ m) (h4 : m ≤ cap) :
    RSl S (.slice (if m = a then ad else ad.map (·.add (a * Rep.z α))) (b - a) (m - a)) ((xs.drop a).take (b - a)) := by
  subst e
  rcases hv with ⟨ad', cap', e, rfl, hcm⟩ | ⟨b0, o, cap0, c, T, fz, e, hb, hc, hm, hRL⟩
  · obtain ⟨rfl, rfl, rfl⟩ : ad = ad' ∧ len = 0 ∧ cap = cap' := by simpa using e
    left
    simp at h2
    subst h2
    have ha : a = 0 := by omega
    subst ha
    exact ⟨_, m, rfl, by simp, by omega⟩
  · obtain ⟨rfl, rfl, rfl⟩ : ad = some ⟨b0, o, none⟩ ∧ len = xs.length ∧ cap = cap0 := by simpa using e
    have hlen : ((xs.drop a).take (b - a)).length = b - a := by simp; omega
    have hsub := hRL.sub a (b - a) (by omega)
    rw [List.drop_take, List.take_take, List.drop_drop] at hsub
    have hle : (b - a) * Rep.z α ≤ xs.length * Rep.z α - a * Rep.z α := by rw [← Nat.sub_mul]; exact Nat.mul_le_mul_right _ (by omega)
    rw [Nat.min_eq_left hle] at hsub
    right
    by_cases hma : m = a
    · have hba : b - a = 0 := by omega
      refine ⟨b0, o, m - a, c, T, fz, ?_, hb, by rw [hlen]; omega, by omega, ?_⟩
      · rw [if_pos hma, hlen]
      · rw [hlen, hba, Nat.zero_mul, List.take_zero]
        rw [hba, Nat.zero_mul, List.take_zero] at hsub
        exact hsub
    · refine ⟨b0, o + a * Rep.z α, m - a, c, T, fz, ?_, hb, by rw [hlen]; omega, by omega, ?_⟩
      · rw [if_neg hma, hlen, Option.map_some, Addr.add_mid]
      · rw [hlen]; exact hsub

theorem RSl.form {v : Value} {xs : List α} (hv : RSl S v xs) : ∃ ad cap, v = .slice ad xs.length cap ∧ xs.length ≤ cap ∧ cap ≤ maxLen := by
  rcases hv with ⟨ad, cap, rfl, rfl, hcm⟩ | ⟨b0, o, cap0, c, T, fz, rfl, hb, hc, hm, hRL⟩
  · exact ⟨ad, cap, rfl, Nat.zero_le _, hcm⟩
  · exact ⟨_, _, rfl, hc, hm⟩

/-- 'x[lo:hi]', 'x[lo:hi:mx]' of data. mx, if there, is at most the length. -/
theorem s_slice {T E : TypeId} {x : Operand} {lo hi mx : Option Operand} {agg : Bool} {zero : List Value} {bb : Nat} {v : Value} {xs : List α} {a b : Nat} (hx : evF l x = v) (hv : RSl S v xs) (hT : SlT P T E) (hE : Ty P E agg (Rep.z α) zero bb)
    (hl : Bd (lo.map (evF l)) 0 a) (hh : Bd (hi.map (evF l)) xs.length b) (hm : mx = none ∨ (∃ k m, mx.map (evF l) = some (.int k (m : Nat)) ∧ b ≤ m ∧ m ≤ xs.length ∧ hi.isSome = true)) (h1 : a ≤ b) (h2 : b ≤ xs.length)
    (h : ∀ v', RSl S v' ((xs.drop a).take (b - a)) → wpList P ops Q rest ⟨(l.set d v').toArray, D⟩ w) :
    wpList P ops Q (⟨some d, .slice T x lo hi mx, ty, pos, af, none⟩ :: rest) ⟨l.toArray, D⟩ w := by
  obtain ⟨ad, cap, rfl, hc, _⟩ := hv.form
  rcases hm with rfl | ⟨k, m, hmx, hbm, hml, his⟩
  · refine step_value (w' := w) ?_ (h _ (hv.sub rfl a b cap h1 h2 (by omega) (Nat.le_refl _)))
    simp only [execOp, hx, Sem.run_bind]
    rw [run_sliceAt hT hE hl hh (mx := (none : Option Operand).map (evF l)) (.inl ⟨rfl, rfl⟩) h1 (by omega) (Nat.le_refl _) (by simp)]
    rfl
  · refine step_value (w' := w) ?_ (h _ (hv.sub rfl a b m h1 h2 hbm (by omega)))
    simp only [execOp, hx, Sem.run_bind]
    rw [run_sliceAt hT hE hl hh (m := m) (.inr ⟨k, hmx⟩) h1 hbm (by omega) (by intro _; simpa using his)]
    rfl

/-! ### A slice literal, a conversion, make -/
def partsOf (l : List Value) (parts : List (Nat × Operand)) : List Value := (parts.map fun p => (evF l p.2).cells.toList).flatten

theorem take_at {A B : List Value} {u : Value} {k : Nat} (h : A.length = k) : (A ++ u :: B).take (k + 1) = A ++ [u] := by
  subst h
  rw [List.take_append, List.take_of_length_le (by omega), show A.length + 1 - A.length = 1 from by omega]
  rfl
theorem drop_at {A B : List Value} {u : Value} {k n : Nat} (h : A.length = k) : (A ++ u :: B).drop (k + 1 + n) = B.drop n := by
  subst h
  rw [List.drop_append, List.drop_of_length_le (by omega), show A.length + 1 + n - A.length = n + 1 from by omega]
  rfl

theorem fill_all {z : Nat} : ∀ (vs : List Value) (i : Nat) (cells : List Value), (∀ v ∈ vs, v.cells.size = z) → i * z + vs.length * z = cells.length →
    Instr.fill (fun j => some (j * z, z)) cells.toArray (vs.zipIdx i |>.map fun p => (p.2, p.1)) = some (cells.take (i * z) ++ (vs.map (·.cells.toList)).flatten).toArray
  | [], i, cells, _, hl => by
    simp at hl
    simp [Instr.fill, hl]
  | v :: r, i, cells, h, hl => by
    have hv := h v (.head _)
    simp only [List.length_cons, Nat.succ_mul] at hl
    have hbig : ¬ (i * z + v.cells.size > cells.length) := by omega
    have put : ∀ (vs : List Value) (j : Nat) (c : Array Value), i * z + j + vs.length ≤ c.size → (vs.zipIdx j).foldl (fun cs p => cs.setIfInBounds (i * z + p.2) p.1) c = (c.toList.take (i * z + j) ++ vs ++ c.toList.drop (i * z + j + vs.length)).toArray := by
      intro vs
      induction vs with
      | nil => intro j c _; simp
      | cons u us ih =>
        intro j c hc
        simp only [List.length_cons] at hc
        rw [List.zipIdx_cons, List.foldl_cons, ih (j + 1) _ (by simp; omega)]
        have hlt : i * z + j < c.toList.length := by simp; omega
        congr 1
        simp only [Array.toList_setIfInBounds]
        rw [List.set_eq_take_append_cons_drop, if_pos hlt]
        have hl2 : (c.toList.take (i * z + j)).length = i * z + j := by simp; omega
        rw [show i * z + (j + 1) = i * z + j + 1 from by omega, take_at hl2, drop_at hl2, List.drop_drop]
        simp only [List.append_assoc, List.singleton_append]
        rw [show i * z + j + 1 + us.length = i * z + j + (u :: us).length from by simp; omega]
    simp only [List.zipIdx_cons, List.map_cons, Instr.fill, hv, ne_eq, not_true_eq_false, decide_false, Bool.false_or, List.size_toArray]
    rw [if_neg (by simpa [hv] using hbig)]
    have hz : v.cells.zipIdx.foldl (fun cs (p : Value × Nat) => cs.setIfInBounds (i * z + p.2) p.1) cells.toArray = (cells.take (i * z) ++ v.cells.toList ++ cells.drop (i * z + z)).toArray := by
      have := put v.cells.toList 0 cells.toArray (by simp [hv]; omega)
      rw [← Array.foldl_toList]
      simpa [hv] using this
    have hz' : v.cells.zipIdx.foldl (fun cs x => match x with | (c, j) => cs.setIfInBounds (i * z + j) c) cells.toArray = (cells.take (i * z) ++ v.cells.toList ++ cells.drop (i * z + z)).toArray := hz
    have hlen : (cells.take (i * z) ++ v.cells.toList).length = (i + 1) * z := by simp [hv, Nat.succ_mul]; omega
    rw [hz', fill_all r (i + 1) _ (fun u hu => h u (.tail _ hu)) (by simp [hv, Nat.succ_mul]; omega)]
    congr 2
    rw [← hlen, List.take_left]
    simp

/-- A slice literal whose places are all given, in order. -/
theorem s_lit {T E : TypeId} {n : Nat} {parts : Array (Nat × Operand)} {agg : Bool} {z : Nat} {zero : List Value} {bb : Nat} {vs cs : List Value} (hst : St S M w) (hT : SlT P T E) (hE : Ty P E agg z zero bb)
    (hp : parts.toList.map (fun p => (p.1, evF l p.2)) = (vs.zipIdx.map fun p => (p.2, p.1))) (hn : vs.length = n) (hv : ∀ v ∈ vs, v.cells.size = z) (hc : (vs.map (·.cells.toList)).flatten = cs) (hs : n * z ≤ 16777216) (hz : 0 < z)
    (h : ∀ v w', St S (.sl v E z n cs :: M) w' → wpList P ops Q rest ⟨(l.set d v).toArray, D⟩ w') :
    wpList P ops Q (⟨some d, .buildSlice T n parts, ty, pos, af, none⟩ :: rest) ⟨l.toArray, D⟩ w := by
  subst hc
  have hlen : (vs.map (·.cells.toList)).flatten.length = n * z := by
    rw [← hn]
    clear hp hn hs h
    induction vs with
    | nil => simp
    | cons v r ih => simp [ih (fun u hu => hv u (.tail _ hu)), hv v (.head _), Nat.succ_mul, Nat.add_comm]
  have hzero : ∀ (q : Array Value), ((Array.range (n * z)).map (q[· % q.size]!)).size = n * z := fun q => by simp
  refine step_value (v := .slice (some ⟨w.heap.size, 0, none⟩) n n) (w' := w.alloc (.cells (vs.map (·.cells.toList)).flatten.toArray E)) ?_ (h _ _ (hst.alloc_sl (fz := (0, 0)) hlen (fun j _ => by simp) (Nat.le_refl _) ?_ (by simpa using Nat.le_of_eq hlen.symm) ?_))
  · have hfill := fun q : Array Value => fill_all (z := z) vs 0 ((Array.range (n * z)).map (q[· % q.size]!)).toList hv (by simp [hn])
    simp only [Nat.zero_mul, List.take_zero, List.nil_append, Array.toArray_toList] at hfill
    have hparts : (parts.map fun (i, x) => (i, evF l x)).toList = (vs.zipIdx.map fun p => (p.2, p.1)) := by
      rw [← hp]; simp
    have h24 : ¬ (n * z > 2 ^ 24) := by omega
    simp only [execOp, Instr.buildSlice, Sem.run_bind, run_underlying hT.u, Result.andThen_ok, hE.run_sizeOf, h24, if_false, Sem.run_pure, hparts]
    by_cases h0 : n * z = 0
    · have hq := hfill #[]
      simp only [h0] at hq
      simp only [h0, if_true, Sem.run_pure, Result.andThen_ok, hq, Sem.run_bind]
      rfl
    · have hq := hfill (vOf agg zero).cells
      simp only [h0, if_false, Sem.run_bind, hE.run_zero, Sem.run_pure, Result.andThen_ok, hq]
      rfl
  · have := Nat.le_mul_of_pos_right n hz
    simp only [maxLen]; omega
  · show List.take (n * z) (List.toArray _).toList = _
    rw [List.toList_toArray, List.take_of_length_le (by rw [hlen]; exact Nat.le_refl _)]

/-- '[]byte(s)'. -/
theorem s_bytes {src dst E : TypeId} {x : Operand} {b : List UInt8} {u : TypeDesc} (hst : St S M w) (hx : evF l x = .string ⟨b.toArray⟩) (hs : P.underlying src = some u) (hd : SlT P dst E) (he : P.underlying E = some (.int .u8)) (hb : b.length ≤ 140737488355328)
    (h : ∀ v w', St S (.sl v E 1 b.length (u8s b) :: M) w' → wpList P ops Q rest ⟨(l.set d v).toArray, D⟩ w') :
    wpList P ops Q (⟨some d, .convert src dst x, ty, pos, af, none⟩ :: rest) ⟨l.toArray, D⟩ w := by
  have hsz : (⟨b.toArray⟩ : ByteArray).size = b.length := by simp [ByteArray.size]
  have hcz : (Lib.bytesCells w E ⟨b.toArray⟩).toList = u8s b ++ List.replicate (grownCap w b.length 0 E - b.length) (.int .u8 0) := by
    simp [Lib.bytesCells, u8s, ByteArray.size]
  have hcl : (Lib.bytesCells w E ⟨b.toArray⟩).size = b.length + (grownCap w b.length 0 E - b.length) := by
    rw [← Array.length_toList, hcz]; simp [u8s]
  have hge := grownCap_ge w b.length 0 E
  refine step_value (v := .slice (some ⟨w.heap.size, 0, none⟩) b.length (grownCap w b.length 0 E)) (w' := Lib.bytesWorld w E ⟨b.toArray⟩) ?_ (h _ _ ?_)
  · have := Lib.run_convert_string_bytes (P := P) w src dst E ⟨b.toArray⟩ hs hd.u he
    rw [hsz] at this
    simp [execOp, hx, this]
  · refine hst.new_sl rfl rfl rfl (fun k hk => Lib.bytesWorld_at_old w E _ k hk) (Lib.bytesWorld_at_new w E _) (by simp [u8s]) (fun j hj => by simp only []; omega) hge (grownCap_le_maxLen w _ _ E (by simp only [maxLen]; omega)) (by rw [hcl]; omega) ?_
    have hu : (u8s b).length = b.length := by simp [u8s]
    rw [hcz, Nat.mul_one, ← hu, List.take_left]

theorem foldl_push (b : List UInt8) : ∀ s : ByteArray, (b.map fun x => (x.toNat : Int)).foldl (fun r n => r.push (UInt8.ofNat n.toNat)) s = ⟨s.data ++ b.toArray⟩ := by
  induction b with
  | nil => intro s; simp
  | cons x r ih =>
    intro s
    rw [List.map_cons, List.foldl_cons, ih]
    simp [ByteArray.push]

theorem run_string {src dst E : TypeId} {ad : Option Addr} {cap : Nat} {b : List UInt8} (hs : SlT P src E) (he : P.underlying E = some (.int .u8)) (hd : P.underlying dst = some .string)
    (hc : b = [] ∨ ∃ bl o, ad = some ⟨bl, o, none⟩ ∧ w.rangeAt bl o (u8s b)) :
    (convert src dst (.slice ad b.length cap)).run P w = .ok (.string ⟨b.toArray⟩) w := by
  rw [run_convert_bytes_string w src dst E ad b.length cap hs.u he hd]
  rcases hc with rfl | ⟨bl, o, rfl, hr⟩
  · cases ad with
    | none => rfl
    | some ad => rfl
  · have hl : (loadCells ⟨bl, o, none⟩ b.length).run P w = .ok ((b.map fun x => (x.toNat : Int)).map (Value.int .u8)).toArray w := by
      have := run_loadCells_list (P := P) w ⟨bl, o, none⟩ (u8s b) (fun j v hv => by rw [Addr.add_mid]; exact hr j v hv)
      simpa [u8s, Function.comp_def] using this
    rw [run_bytesToString w _ _ cap _ hl, foldl_push]
    simp

/-- 'string(b)' of data. -/
theorem s_string {src dst E : TypeId} {x : Operand} {v : Value} {b : List UInt8} (hst : St S M w) (hx : evF l x = v) (hv : RSl S v b) (hs : SlT P src E) (he : P.underlying E = some (.int .u8)) (hd : P.underlying dst = some .string)
    (h : wpList P ops Q rest ⟨(l.set d (.string ⟨b.toArray⟩)).toArray, D⟩ w) :
    wpList P ops Q (⟨some d, .convert src dst x, ty, pos, af, none⟩ :: rest) ⟨l.toArray, D⟩ w := by
  refine step_value (w' := w) ?_ h
  rcases hv with ⟨ad, cap, rfl, rfl, _⟩ | ⟨b0, o, cap0, c, T, fz, rfl, hb, hc, hm, hRL⟩
  · have := run_string (P := P) (w := w) (ad := ad) (cap := cap) (b := []) hs he hd (.inl rfl)
    simp at this
    simp [execOp, hx, this]
  · have := run_string (P := P) (w := w) (ad := some ⟨b0, o, none⟩) (cap := cap0) (b := b) hs he hd (.inr ⟨b0, o, rfl, by rw [← hRL.eq_u8s]; exact range_of (hst.has _ _ hb)⟩)
    simp [execOp, hx, this]

/-- 'string(b)' of an own slice. -/
theorem s_string_own {src dst E F : TypeId} {x : Operand} {v : Value} {b : List UInt8} {k n : Nat} (hst : St S M w) (hx : evF l x = v) (hk : M[k]? = some (.sl v F 1 n (u8s b))) (hs : SlT P src E) (he : P.underlying E = some (.int .u8)) (hd : P.underlying dst = some .string)
    (h : wpList P ops Q rest ⟨(l.set d (.string ⟨b.toArray⟩)).toArray, D⟩ w) :
    wpList P ops Q (⟨some d, .convert src dst x, ty, pos, af, none⟩ :: rest) ⟨l.toArray, D⟩ w := by
  refine step_value (w' := w) ?_ h
  have h0 := hst.get hk
  have hn : n = b.length := by have := h0.1; simp [u8s] at this; exact this.symm
  subst hn
  rcases h0.2 with ⟨rfl, hb⟩ | ⟨g, cap, cur, fz, rfl, hg, hfz, hnc, hcm, hcs, htk⟩
  · obtain rfl : b = [] := List.eq_nil_of_length_eq_zero hb
    have := run_string (P := P) (w := w) (ad := none) (cap := 0) (b := []) hs he hd (.inl rfl)
    simp at this
    simp [execOp, hx, this]
  · have := run_string (P := P) (w := w) (ad := some ⟨g, 0, none⟩) (cap := cap) (b := b) hs he hd (.inr ⟨g, 0, rfl, by rw [← htk]; have := range_of (o := 0) (n := b.length * 1) hg; simpa using this⟩)
    simp [execOp, hx, this]

/-- 'make([]T, n)'. -/
theorem s_make {T E : TypeId} {x y : Operand} {agg : Bool} {z : Nat} {zero : List Value} {bb : Nat} {k k' : IntKind} {n : Nat} (hst : St S M w) (hT : SlT P T E) (hE : Ty P E agg z zero bb) (hx : evF l x = .int k (n : Int)) (hy : evF l y = .int k' (n : Int)) (hb : n * bb ≤ 140737488355328) (hm : n ≤ 140737488355328)
    (h : ∀ v w', St S (.sl v E z n (List.replicate n zero).flatten :: M) w' → wpList P ops Q rest ⟨(l.set d v).toArray, D⟩ w') :
    wpList P ops Q (⟨some d, .makeSlice T x y, ty, pos, af, none⟩ :: rest) ⟨l.toArray, D⟩ w := by
  obtain ⟨i, hi, hiz, his, hib⟩ := hE.run_bytes
  have hbn : (i.bytes : Int) * (n : Int) ≤ 281474976710656 := by
    have : ((bb * n : Nat) : Int) ≤ 281474976710656 := by rw [Nat.mul_comm]; omega
    rw [hib, ← Int.natCast_mul]; exact this
  have hr := run_make (P := P) w T E i _ hT.u hi hiz k k' n n (by omega) (Int.le_refl _) hbn (by omega)
  have hzero : (vOf agg zero).cells = zero.toArray := by apply Array.ext'; simpa using hE.cells_
  have hlen : (List.replicate n zero).flatten.length = n * z := by simp [hE.len_]
  refine step_value (v := .slice (some ⟨w.heap.size, 0, none⟩) n n) (w' := w.alloc (.cells (madeCells (vOf agg zero).cells (n * i.size)) E)) ?_ (h _ _ (hst.alloc_sl (fz := (0, 0)) hlen (fun j _ => by simp) (Nat.le_refl _) (by simp only [maxLen]; omega) (by simp [size_madeCells, his]) ?_))
  · simp only [Int.toNat_natCast] at hr
    simp [execOp, hx, hy, hr]
  · rw [his, hzero]
    apply List.ext_getElem?
    intro j
    rw [List.getElem?_take]
    split
    · rename_i hj
      have hz : 0 < z := by
        rcases Nat.eq_zero_or_pos z with e | e
        · subst e; simp at hj
        · exact e
      have e1 : j = (j / z) * z + j % z := (Nat.div_add_mod' j z).symm
      have hq : j / z < n := by rw [Nat.div_lt_iff_lt_mul hz]; exact hj
      have hr' := Nat.mod_lt j hz
      have : ∀ m, (j / z) < m → ((List.replicate m zero).flatten)[j]? = zero[j % z]? := by
        intro m hm'
        have hsplit : m = (j / z) + (1 + (m - j / z - 1)) := by omega
        rw [hsplit, ← List.replicate_append_replicate, List.flatten_append, List.getElem?_append_right (by simp [hE.len_]; exact Nat.div_mul_le_self j z)]
        rw [← List.replicate_append_replicate, List.flatten_append]
        have el : (List.replicate (j / z) zero).flatten.length = j / z * z := by simp [hE.len_]
        rw [el, show j - j / z * z = j % z from by omega, List.getElem?_append_left (by simp [hE.len_, hr'])]
        simp
      rw [this n hq]
      simp [madeCells, hj, hE.len_]
      rw [List.getElem?_eq_getElem (by rw [hE.len_]; exact hr')]
      rfl
    · rename_i hj
      rw [List.getElem?_eq_none (by rw [hlen]; omega)]
end
end Go.Sl

/- What comes in: a reading is a datum, whose size is at most the reading's bulk. -/
namespace Go.Sl
set_option linter.unusedSimpArgs false
set_option linter.unusedVariables false
open Go.RowKit Go.Proofs.YtjapdhaimbalkaaDoor
variable {P : Program}
section
variable {α β : Type} [Rep α] [Rep β] {S : Snap} {w : World}

/-! ### What came in -/
/-- All that is there when a call begins. -/
def snapOf (w : World) : Snap := ⟨w.os, w.tape, w.output, fun b => w.heap[b]?⟩

theorem St.start (w : World) : St (snapOf w) [] w where
  os := rfl
  tape := rfl
  output := rfl
  has := fun _ _ h => h
  at_ := fun _ h => (by cases h)
  out := fun _ h => (by cases h)
  apart := List.Pairwise.nil

theorem St.below {W w : World} {M : List Chunk} (h : St (snapOf W) M w) : Below W.heap.size W w := by
  have hb : ∀ k, k < W.heap.size → w.heap[k]? = W.heap[k]? := fun k hk => by
    have : (snapOf W).blk k = some W.heap[k] := by simp [snapOf, hk]
    rw [h.has k _ this]; simp [hk]
  refine ⟨h.os, h.tape, h.output, ?_, hb⟩
  rcases Nat.eq_zero_or_pos W.heap.size with e | e
  · omega
  · have := hb (W.heap.size - 1) (by omega)
    rw [Array.getElem?_eq_getElem (xs := W.heap) (by omega)] at this
    have h2 := (Array.getElem?_eq_some_iff.1 this).1
    omega

/-- How much a datum holds, at the least: every letter, every number. -/
class Siz (α : Type) where
  siz : α → Nat
instance : Siz Int := ⟨fun _ => 1⟩
instance : Siz UInt8 := ⟨fun _ => 1⟩
instance : Siz Bool := ⟨fun _ => 1⟩
instance : Siz Str := ⟨fun s => s.b.length⟩
instance : Siz Unit := ⟨fun _ => 0⟩
instance {α : Type} [Siz α] : Siz (List α) := ⟨fun l => (l.map Siz.siz).sum + 1⟩
instance {α β : Type} [Siz α] [Siz β] : Siz (α × β) := ⟨fun p => Siz.siz p.1 + Siz.siz p.2⟩
instance {α : Type} [Siz α] {n : Nat} : Siz (Arr α n) := ⟨fun a => (a.1.map Siz.siz).sum⟩
variable [Siz α] [Siz β]

omit [Rep α] in
theorem bulk_le {H ι : Type} {l : List ι} {f : ι → α} {D : ι → DataW H} (h : ∀ i ∈ l, Siz.siz (f i) ≤ Rows.uptoBulk (D i)) : ((l.map f).map Siz.siz).sum ≤ Rows.uptoBulkAll (l.map D) := by
  induction l with
  | nil => simp
  | cons i l ih =>
    have h1 := h i (.head _)
    have h2 := ih fun j hj => h j (.tail _ hj)
    simp only [List.map_cons, List.sum_cons, Rows.uptoBulkAll]
    omega

/-- A reading of type T is a datum. -/
class Opens (P : Program) (T : TypeId) (α : Type) [Rep α] [Siz α] : Prop where
  opens : ∀ {H : Type} {enc : TypeId × Value → H} {W : World} {base : Nat} {spare : Nat → Bool} {held : Bool} {fuel : Nat} {cs : List Value} {x : DataW H × List MemPlace},
    DataW.trod enc P W base spare held fuel T cs = some x → ∃ y : α, Rep.R (snapOf W) cs y ∧ Siz.siz y ≤ Rows.uptoBulk x.1

theorem opens_int {T : TypeId} (h : P.underlying T = some (.int .i64)) : Opens P T Int := ⟨fun hx => by
  obtain ⟨n, rfl, rfl, hw⟩ := DataW.trod_int h hx
  refine ⟨n, ⟨rfl, ?_⟩, by simp [Rows.uptoBulk, Siz.siz]⟩
  simpa [Lit.wf, IntKind.min, IntKind.max, IntKind.signed, IntKind.bits, I64] using hw⟩

theorem opens_u8 {T : TypeId} (h : P.underlying T = some (.int .u8)) : Opens P T UInt8 := ⟨fun hx => by
  obtain ⟨n, rfl, rfl, hw⟩ := DataW.trod_int h hx
  have : 0 ≤ n ∧ n ≤ 255 := by simpa [Lit.wf, IntKind.min, IntKind.max, IntKind.signed, IntKind.bits] using hw
  refine ⟨UInt8.ofNat n.toNat, ?_, by simp [Rows.uptoBulk, Siz.siz]⟩
  show [Value.int .u8 n] = [Value.int .u8 ((UInt8.ofNat n.toNat).toNat : Int)]
  rw [UInt8.toNat_ofNat']
  congr 2
  omega⟩

theorem opens_bool {T : TypeId} (h : P.underlying T = some .bool) : Opens P T Bool := ⟨fun hx => by
  obtain ⟨b, rfl, rfl⟩ := DataW.trod_bool h hx
  exact ⟨b, rfl, by simp [Rows.uptoBulk, Siz.siz]⟩⟩

theorem opens_str {T : TypeId} (h : P.underlying T = some .string) : Opens P T Str := ⟨fun hx => by
  obtain ⟨s, rfl, rfl, hl⟩ := DataW.trod_string h hx
  refine ⟨⟨s.data.toList⟩, ⟨?_, ?_⟩, by simp [Rows.uptoBulk, Siz.siz]⟩
  · rw [Array.toArray_toList]
  · rw [Array.length_toList]; exact hl⟩

theorem cellsOf_ty {T : TypeId} {agg : Bool} {z : Nat} {zero : List Value} {bb : Nat} (h : Ty P T agg z zero bb) : P.cellsOf T = z := by
  obtain ⟨i, hi, _, hs, _⟩ := h.run_bytes
  simp [Program.cellsOf, hi, hs]

theorem cells?_block {W : World} {base b o n : Nat} {sp : Option Nat} {cs : List Value} (h : W.cells? base ⟨b, o, sp⟩ n = some cs) (hn : 0 < n) :
    ∃ c T fz, W.heap[b]? = some (.cells c T fz) ∧ sp = none ∧ o + n ≤ c.size ∧ cs = (c.toList.drop o).take n := by
  obtain ⟨_, hl, hc⟩ := World.cells?_some h
  have h0 := hc 0 hn
  have hsp : sp = none := by
    cases sp with
    | none => rfl
    | some t =>
      exfalso
      rw [Addr.add_zero', List.getElem?_eq_getElem (by omega)] at h0
      unfold World.cell? at h0
      split at h0 <;> simp at h0
  subst hsp
  cases hb : W.heap[b]? with
  | none => rw [Addr.add_mid, List.getElem?_eq_getElem (by omega)] at h0; simp [World.cell?, hb] at h0
  | some ob =>
    cases ob with
    | cells c T fz =>
      have hcell : ∀ i, i < n → c[o + i]? = cs[i]? := fun i hi => by
        have := hc i hi
        rw [Addr.add_mid] at this
        simpa [World.cell?, hb] using this
      have hle : o + n ≤ c.size := by
        have := hcell (n - 1) (by omega)
        rw [List.getElem?_eq_getElem (by omega)] at this
        have := (Array.getElem?_eq_some_iff.1 this).1
        omega
      refine ⟨c, T, fz, rfl, rfl, hle, ?_⟩
      apply List.ext_getElem?
      intro i
      rw [List.getElem?_take]
      split
      · rename_i hi
        rw [← hcell i hi, List.getElem?_drop]
        simp
      · rename_i hi
        exact List.getElem?_eq_none (by omega)
    | _ => rw [Addr.add_mid, List.getElem?_eq_getElem (by omega)] at h0; simp [World.cell?, hb] at h0

theorem opens_list {T E : TypeId} {agg : Bool} {zero : List Value} {bb : Nat} (hT : SlT P T E) (hE : Ty P E agg (Rep.z α) zero bb) (hz : 0 < Rep.z α) [o : Opens P E α] : Opens P T (List α) := ⟨fun {H enc W base spare held fuel cs x} hx => by
  rcases Deep.open_slice hT.u hx with ⟨rfl, rfl⟩ | ⟨a, len, cap, m, n, Dt, Pl, rfl, hb, hl, hm, hmm, rfl, hel⟩
  · exact ⟨[], ⟨_, rfl, .inl ⟨none, 0, rfl, rfl, by simp [maxLen]⟩⟩, by simp [Rows.uptoBulk, Siz.siz]⟩
  · rw [cellsOf_ty hE] at hel
    have hlm : len ≤ m := by rw [hmm]; split <;> omega
    have hy : ∀ i, i < len → ∃ y : α, ∃ cs', W.cells? base (a.add (i * Rep.z α)) (Rep.z α) = some cs' ∧ Rep.R (snapOf W) cs' y ∧ Siz.siz y ≤ Rows.uptoBulk (Dt i) := fun i hi => by
      obtain ⟨cs', h1, h2⟩ := hel i (by omega)
      obtain ⟨y, hy, hs⟩ := o.opens h2
      exact ⟨y, cs', h1, hy, hs⟩
    rcases Nat.eq_zero_or_pos len with e | e
    · subst e; exact ⟨[], ⟨_, rfl, .inl ⟨some a, cap, rfl, rfl, hm⟩⟩, by simp [Rows.uptoBulk, Siz.siz]⟩
    · obtain ⟨b, o', sp⟩ := a
      have : Nonempty α := let ⟨y, _⟩ := hy 0 e; ⟨y⟩
      have hch : ∃ f : Nat → α, ∀ i, i < len → ∃ cs', W.cells? base ((⟨b, o', sp⟩ : Addr).add (i * Rep.z α)) (Rep.z α) = some cs' ∧ Rep.R (snapOf W) cs' (f i) ∧ Siz.siz (f i) ≤ Rows.uptoBulk (Dt i) := by
        have : Inhabited α := ⟨Classical.choice this⟩
        exact Deep.choose_lt hy
      obtain ⟨f, hf⟩ := hch
      obtain ⟨cs0, h0, _, _⟩ := hf 0 e
      rw [Nat.zero_mul, Addr.add_zero'] at h0
      obtain ⟨c, TT, fz, hblk, rfl, _, _⟩ := cells?_block h0 hz
      refine ⟨(List.range len).map f, ⟨_, rfl, .inr ⟨b, o', cap, c, TT, fz, by simp, hblk, by simpa using hl, hm, ?_⟩⟩, by
        have := bulk_le (l := List.range len) (f := f) (D := Dt) fun i hi => (hf i (List.mem_range.1 hi)).elim fun _ h => h.2.2
        simp only [Siz.siz, Rows.uptoBulk] at this ⊢
        omega⟩
      have hcell : ∀ i, i < len → o' + i * Rep.z α + Rep.z α ≤ c.size ∧ Rep.R (snapOf W) ((c.toList.drop (o' + i * Rep.z α)).take (Rep.z α)) (f i) := fun i hi => by
        obtain ⟨cs', h1, h2, _⟩ := hf i hi
        rw [Addr.add_mid] at h1
        obtain ⟨c', T', fz', hb', _, hle, rfl⟩ := cells?_block h1 hz
        obtain rfl : c = c' := by rw [hblk] at hb'; cases hb'; rfl
        exact ⟨hle, h2⟩
      have hlast := (hcell (len - 1) (by omega)).1
      have hlen : o' + len * Rep.z α ≤ c.size := by
        have : (len - 1) * Rep.z α + Rep.z α = len * Rep.z α := by rw [← Nat.succ_mul]; congr 1; omega
        omega
      refine ⟨by simp; omega, fun i x hix => ?_⟩
      have hi : i < len := by
        rcases Nat.lt_or_ge i len with h | h
        · exact h
        · rw [List.getElem?_eq_none (by simpa using h)] at hix; cases hix
      have hx : x = f i := by simpa [hi] using hix.symm
      subst hx
      have hR := (hcell i hi).2
      have hle : i * Rep.z α + Rep.z α ≤ len * Rep.z α := by rw [← Nat.succ_mul]; exact Nat.mul_le_mul_right _ hi
      rw [List.length_map, List.length_range, List.drop_take, List.take_take, List.drop_drop, Nat.min_eq_left (by omega)]
      exact hR⟩

/-- Structs: fields, one by one. 'FsR P fs off β': the fields fs, the first at off, read as the nested product β. -/
class OpenFs (P : Program) (fs : List Field) (off : Nat) (β : Type) [Rep β] [Siz β] : Prop where
  opens : ∀ {H : Type} {enc : TypeId × Value → H} {W : World} {base : Nat} {spare : Nat → Bool} {held : Bool} {fuel : Nat} {cs : List Value} {xs : List (DataW H × List MemPlace)},
    cs.length = off + Rep.z β → xs.length = fs.length → (∀ (i : Nat) (f : Field), fs[i]? = some f → DataW.trod enc P W base spare held fuel f.type ((cs.drop f.offset).take (P.cellsOf f.type)) = xs[i]?) →
      ∃ y : β, Rep.R (snapOf W) (cs.drop off) y ∧ Siz.siz y ≤ Rows.uptoBulkAll (xs.map (·.1))

theorem openFs_nil {off : Nat} : OpenFs P [] off Unit := ⟨fun h _ _ => ⟨(), by show List.drop _ _ = []; rw [List.drop_eq_nil_iff]; simp [Rep.z] at h; omega, by simp [Siz.siz]⟩⟩

theorem openFs_cons {f : Field} {fs : List Field} {off : Nat} (ho : f.offset = off) (hz : P.cellsOf f.type = Rep.z α) [oa : Opens P f.type α] [ob : OpenFs P fs (off + Rep.z α) β] : OpenFs P (f :: fs) off (α × β) := ⟨fun {H enc W base spare held fuel cs xs} h hlen hall => by
  subst ho
  cases xs with
  | nil => simp at hlen
  | cons x xs =>
    have h1 := hall 0 f rfl
    obtain ⟨y, hy, hs⟩ := oa.opens (x := x) h1
    obtain ⟨y', hy', hs'⟩ := ob.opens (xs := xs) (by rw [h]; show _ + (Rep.z α + Rep.z β) = _; omega) (by simpa using hlen) (fun i g hg => by simpa using hall (i + 1) g (by simpa using hg))
    refine ⟨(y, y'), ⟨?_, ?_, ?_⟩, ?_⟩
    · rw [List.length_drop, h]; show _ = Rep.z α + Rep.z β; have : Rep.z (α × β) = Rep.z α + Rep.z β := rfl; omega
    · rw [hz] at hy; exact hy
    · rw [List.drop_drop]; exact hy'
    · simp only [Siz.siz, List.map_cons, Rows.uptoBulkAll] at hs hs' ⊢; omega⟩

theorem opens_struct {T : TypeId} {fs : Array Field} (hT : P.underlying T = some (.struct fs)) (hz : P.cellsOf T = Rep.z α) (o : OpenFs P fs.toList 0 α) : Opens P T α := ⟨fun {H enc W base spare held fuel cs x} hx => by
  obtain ⟨xs, n, _, rfl, hl, hxl, hf⟩ := DataW.trod_struct hT hx
  obtain ⟨y, hy, hs⟩ := o.opens (enc := enc) (W := W) (base := base) (spare := spare) (held := held) (fuel := n) (cs := cs) (xs := xs) (by rw [hl, hz, Nat.zero_add]) (by rw [hxl]; simp) (fun i f hf' => hf i f (by simpa using hf'))
  exact ⟨y, by simpa using hy, by simp only [Rows.uptoBulk]; omega⟩⟩

theorem opens_array {T E : TypeId} {n : Nat} (hT : ArrT P T n E) (hz : P.cellsOf E = Rep.z α) (hz' : P.cellsOf T = n * Rep.z α) [o : Opens P E α] : Opens P T (Arr α n) := ⟨fun {H enc W base spare held fuel cs x} hx => by
  obtain ⟨xs, m, _, rfl, hl, hxl, hf⟩ := DataW.trod_array hT.u hx
  have hy : ∀ i, i < n → ∃ y : α, Rep.R (snapOf W) ((cs.drop (i * Rep.z α)).take (Rep.z α)) y ∧ Siz.siz y ≤ Rows.uptoBulk ((xs.map (·.1)).getD i .nil) := fun i hi => by
    have := hf i hi
    rw [List.getElem?_eq_getElem (by omega), hz] at this
    have h2 := o.opens this
    rw [List.getD_eq_getElem?_getD, List.getElem?_map, List.getElem?_eq_getElem (by omega)]
    exact h2
  have hch : ∃ l : List α, l.length = n ∧ (∀ i y, l[i]? = some y → Rep.R (snapOf W) ((cs.drop (i * Rep.z α)).take (Rep.z α)) y) ∧ (l.map Siz.siz).sum ≤ Rows.uptoBulkAll (xs.map (·.1)) := by
    rcases Nat.eq_zero_or_pos n with e | e
    · subst e; exact ⟨[], rfl, fun i y h => by simp at h, by simp⟩
    · obtain ⟨y0, _⟩ := hy 0 e
      have : Inhabited α := ⟨y0⟩
      obtain ⟨f, hf⟩ := Deep.choose_lt hy
      refine ⟨(List.range n).map f, by simp, fun i y h => ?_, ?_⟩
      · have hi : i < n := by
          rcases Nat.lt_or_ge i n with h' | h'
          · exact h'
          · rw [List.getElem?_eq_none (by simpa using h')] at h; cases h
        have : y = f i := by simpa [hi] using h.symm
        subst this
        exact (hf i hi).1
      · have := bulk_le (l := List.range n) (f := f) (D := fun i => (xs.map (·.1)).getD i .nil) fun i hi => (hf i (List.mem_range.1 hi)).2
        rwa [show (List.range n).map (fun i => (xs.map (·.1)).getD i .nil) = xs.map (·.1) from by
          apply List.ext_getElem?
          intro i
          rw [List.getElem?_map]
          by_cases hi : i < n
          · rw [List.getElem?_range hi, Option.map_some, List.getD_eq_getElem?_getD, List.getElem?_eq_getElem (by simp; omega)]; rfl
          · rw [List.getElem?_eq_none (by simp; omega), List.getElem?_eq_none (by simp; omega)]; rfl] at this
  obtain ⟨l, hll, hlr, hls⟩ := hch
  exact ⟨⟨l⟩, ⟨hll, by rw [hl, hz', hll], hlr⟩, by simp only [Rows.uptoBulk, Siz.siz]; omega⟩⟩
end
end Go.Sl

/- Rules of a small separation logic over the model's worlds: calls; own slices read and written in place. General over the program. -/
namespace Go.Sl
set_option linter.unusedSimpArgs false
set_option linter.unusedVariables false
open Go.RowKit
variable {P : Program}
section
variable {ops : Array Oper} {rest : List Oper} {Q : Exit → Act → World → Prop} {l : List Value} {D : List Deferred} {w : World} {d : Tmp} {ty : TypeId} {pos : String} {af : Array Edge} {S : Snap} {M : List Chunk}
variable {α β : Type} [Rep α] [Rep β]

/-- A function with a body. -/
class Body (P : Program) (f : FuncId) : Prop where
  ok : (P.funcs[f]?).map (fun fn => (fn.name == "runtime.NumGoroutine", fn.body.isNone)) = some (false, false)

theorem Body.enter {f : FuncId} (h : Body P f) (args : Array Value) (w : World) : (callFunc f args).run P w = .ok (.enter f args) w := by
  have := h.ok
  cases hf : P.funcs[f]? with
  | none => simp [hf] at this
  | some fn =>
    rw [hf] at this
    simp only [Option.map_some, Option.some.injEq, Prod.mk.injEq] at this
    obtain ⟨h1, h2⟩ := this
    have h1' : ¬ (fn.name = "runtime.NumGoroutine") := by simpa using h1
    have h2' : ¬ (fn.body = none) := by intro e; rw [e] at h2; simp at h2
    simp [callFunc, hf, h1', h2']

/-- The call returns; 'post' of what it returns and of the world behind it. -/
def Rets (P : Program) (f : FuncId) (args : List Value) (w : World) (post : Value → World → Prop) : Prop :=
  Calls P f args.toArray w fun e w' => ∃ v, e = .returned v ∧ post v w'

theorem Rets.mono {f : FuncId} {args : List Value} {post post' : Value → World → Prop} (h : Rets P f args w post) (hp : ∀ v w', post v w' → post' v w') : Rets P f args w post' :=
  Calls.mono h fun _ w' ⟨v, e, p⟩ => ⟨v, e, hp v w' p⟩

def putD (l : List Value) (d : Option Tmp) (v : Value) : List Value := match d with | some t => l.set t v | none => l

theorem step_enter {o : Oper} (hg : o.guard = none) {f : FuncId} {args : List Value} {post : Value → World → Prop} (hr : (execOp (evF l) o).run P w = .ok (.enter f args.toArray) w)
    (c : Rets P f args w post) (h : ∀ v w', post v w' → wpList P ops Q rest ⟨(putD l o.dst v).toArray, D⟩ w') : wpList P ops Q (o :: rest) ⟨l.toArray, D⟩ w := by
  refine wpList_plain hg fun K hK => ?_
  unfold Oper.wp
  rw [evF_eq, hr]
  refine Calls.mono c fun e w' ⟨v, he, hp⟩ => ?_
  subst he
  refine hK _ _ ?_
  have := h v w' hp
  cases ho : o.dst <;> simpa [Act.put, putD, ho] using this

/-- A call of a function that is named. -/
theorem s_call {f : FuncId} {xs : List Operand} {ats : Array TypeId} {args : List Value} {dd : Option Tmp} {post : Value → World → Prop} (c : Rets P f args w post) (hb : Body P f) (ha : xs.map (evF l) = args)
    (h : ∀ v w', post v w' → wpList P ops Q rest ⟨(putD l dd v).toArray, D⟩ w') :
    wpList P ops Q (⟨dd, .call { callee := .value (.func f), args := xs.toArray, argTypes := ats }, ty, pos, af, none⟩ :: rest) ⟨l.toArray, D⟩ w := by
  refine step_enter rfl ?_ c h
  subst ha
  have := hb.enter (w := w) (xs.map (evF l)).toArray
  simp only [execOp, resolve, Deferred.ofValue, evF, Sem.run_bind, Sem.run_pure, Result.andThen_ok, invoke]
  simpa using this

/-- A call of a function value. -/
theorem s_callv {f : FuncId} {x : Operand} {xs : List Operand} {ats : Array TypeId} {args args' : List Value} {fi ca : List Value} {dd : Option Tmp} {post : Value → World → Prop} (c : Rets P f args' w post) (hx : evF l x = .func (.func f) fi.toArray ca.toArray) (hb : Body P f) (ha : xs.map (evF l) = args)
    (hargs : fi ++ args ++ ca = args') (h : ∀ v w', post v w' → wpList P ops Q rest ⟨(putD l dd v).toArray, D⟩ w') :
    wpList P ops Q (⟨dd, .call { callee := .value x, args := xs.toArray, argTypes := ats }, ty, pos, af, none⟩ :: rest) ⟨l.toArray, D⟩ w := by
  refine step_enter rfl ?_ c h
  subst ha; subst hargs
  have := hb.enter (w := w) (fi ++ xs.map (evF l) ++ ca).toArray
  simp only [execOp, resolve, hx, Deferred.ofValue, Sem.run_bind, Sem.run_pure, Result.andThen_ok, invoke]
  simpa using this

/-! ### Loads of one cell -/
theorem s_ldp_int {T : TypeId} {x : Operand} {zero : List Value} {bb : Nat} {p : Value} {y : Int} (hst : St S M w) (hx : evF l x = p) (hp : Pt S p y)
    (hT : Ty P T false 1 zero bb) (h : I64 y → wpList P ops Q rest ⟨(l.set d (.int .i64 y)).toArray, D⟩ w) :
    wpList P ops Q (⟨some d, .load T x, ty, pos, af, none⟩ :: rest) ⟨l.toArray, D⟩ w :=
  s_ldp hst hx hp hT fun cs hcs => by obtain ⟨rfl, hi⟩ := hcs; exact h hi

theorem s_ldp_u8 {T : TypeId} {x : Operand} {zero : List Value} {bb : Nat} {p : Value} {y : UInt8} (hst : St S M w) (hx : evF l x = p) (hp : Pt S p y)
    (hT : Ty P T false 1 zero bb) (h : wpList P ops Q rest ⟨(l.set d (.int .u8 y.toNat)).toArray, D⟩ w) :
    wpList P ops Q (⟨some d, .load T x, ty, pos, af, none⟩ :: rest) ⟨l.toArray, D⟩ w :=
  s_ldp hst hx hp hT fun cs hcs => by obtain rfl := hcs; exact h

theorem s_ldp_bool {T : TypeId} {x : Operand} {zero : List Value} {bb : Nat} {p : Value} {y : Bool} (hst : St S M w) (hx : evF l x = p) (hp : Pt S p y)
    (hT : Ty P T false 1 zero bb) (h : wpList P ops Q rest ⟨(l.set d (.bool y)).toArray, D⟩ w) :
    wpList P ops Q (⟨some d, .load T x, ty, pos, af, none⟩ :: rest) ⟨l.toArray, D⟩ w :=
  s_ldp hst hx hp hT fun cs hcs => by obtain rfl := hcs; exact h

theorem RSl.oneCell {v : Value} {xs : List α} (h : RSl S v xs) : v.oneCell' = true := by
  rcases h with ⟨ad, cap, rfl, _⟩ | ⟨b, o, cap, c, T, fz, rfl, _⟩ <;> rfl

theorem s_ldp_list {T : TypeId} {x : Operand} {zero : List Value} {bb : Nat} {p : Value} {y : List α} (hst : St S M w) (hx : evF l x = p) (hp : Pt S p y)
    (hT : Ty P T false 1 zero bb) (h : ∀ v, RSl S v y → v.oneCell' = true → wpList P ops Q rest ⟨(l.set d v).toArray, D⟩ w) :
    wpList P ops Q (⟨some d, .load T x, ty, pos, af, none⟩ :: rest) ⟨l.toArray, D⟩ w :=
  s_ldp hst hx hp hT fun cs hcs => by obtain ⟨v, rfl, hv⟩ := hcs; exact h v hv hv.oneCell

/-! ### Own slices in place -/
/-- p points into the own slice v, at cell o. -/
def PtO (v p : Value) (o : Nat) : Prop := ∃ g n cap, v = .slice (some ⟨g, 0, none⟩) n cap ∧ p = .pointer (some ⟨g, o, none⟩)

theorem s_len_own {T E F : TypeId} {x : Operand} {v : Value} {k z n : Nat} {c : List Value} (hst : St S M w) (hx : evF l x = v) (hk : M[k]? = some (.sl v F z n c)) (hT : SlT P T E)
    (h : wpList P ops Q rest ⟨(l.set d (.int .i64 n)).toArray, D⟩ w) :
    wpList P ops Q (⟨some d, .call { callee := .builtin .len, args := #[x], argTypes := #[T] }, ty, pos, af, none⟩ :: rest) ⟨l.toArray, D⟩ w := by
  refine step_value (v := .int .i64 n) (w' := w) ?_ h
  rcases (hst.get hk).2 with ⟨rfl, rfl⟩ | ⟨g, cap, cur, fz, rfl, _⟩ <;>
    simp [execOp, resolve, invoke, builtin, hx, Builtin.len_, run_underlying hT.u, goInt]

theorem s_index_own {T E F : TypeId} {x i : Operand} {agg : Bool} {zero : List Value} {bb : Nat} {v : Value} {k z n : Nat} {c : List Value} {kk : IntKind} {j : Int} (hst : St S M w) (hx : evF l x = v) (hk : M[k]? = some (.sl v F z n c)) (hi : evF l i = .int kk j)
    (hT : SlT P T E) (hE : Ty P E agg z zero bb) (h0 : 0 ≤ j) (hn : j.toNat < n)
    (h : ∀ p, PtO v p (j.toNat * z) → wpList P ops Q rest ⟨(l.set d p).toArray, D⟩ w) :
    wpList P ops Q (⟨some d, .indexAddr T x i, ty, pos, af, none⟩ :: rest) ⟨l.toArray, D⟩ w := by
  rcases (hst.get hk).2 with ⟨rfl, rfl⟩ | ⟨g, cap, cur, fz, rfl, _⟩
  · omega
  · refine step_value (v := .pointer (some ⟨g, j.toNat * z, none⟩)) (w' := w) ?_ (h _ ⟨g, n, cap, rfl, rfl⟩)
    have hlt : j < n := by omega
    simp [execOp, hx, hi, Instr.indexAt, asIntOf, run_underlying hT.u, h0, hlt, hE.run_sizeOf, Addr.add_mid]

theorem s_field_own {T : TypeId} {kf off : Nat} {x : Operand} {v p : Value} {o : Nat} (hx : evF l x = p) (hp : PtO v p o) (hT : FldT P T kf off)
    (h : ∀ q, PtO v q (o + off) → wpList P ops Q rest ⟨(l.set d q).toArray, D⟩ w) :
    wpList P ops Q (⟨some d, .fieldAddr T x kf, ty, pos, af, none⟩ :: rest) ⟨l.toArray, D⟩ w := by
  obtain ⟨g, n, cap, rfl, rfl⟩ := hp
  exact s_field hx hT (h _ ⟨g, n, cap, rfl, rfl⟩)

theorem s_load_own {T F : TypeId} {x : Operand} {agg : Bool} {z : Nat} {zero : List Value} {bb : Nat} {v p : Value} {o k zz n : Nat} {c cs : List Value} (hst : St S M w) (hx : evF l x = p) (hp : PtO v p o) (hk : M[k]? = some (.sl v F zz n c))
    (hT : Ty P T agg z zero bb) (hc : (c.drop o).take z = cs) (hl : o + z ≤ c.length) (h : wpList P ops Q rest ⟨(l.set d (vOf agg cs)).toArray, D⟩ w) :
    wpList P ops Q (⟨some d, .load T x, ty, pos, af, none⟩ :: rest) ⟨l.toArray, D⟩ w := by
  obtain ⟨g, n', cap', rfl, rfl⟩ := hp
  have h0 := hst.get hk
  rcases h0.2 with ⟨e, _⟩ | ⟨g', cap, cur, fz, e, hg, hfz, hnc, hcm, hcs, htk⟩
  · cases e
  · obtain ⟨rfl, rfl, rfl⟩ : g = g' ∧ n' = n ∧ cap' = cap := by simpa using e
    have hlen : cs.length = z := by rw [← hc]; simp; omega
    have hr : w.rangeAt g o cs := by
      have := range_of (o := o) (n := z) hg
      rw [← hc, ← htk]
      rw [← htk] at hl
      simp only [List.length_take] at hl
      rw [List.drop_take, List.take_take, Nat.min_eq_left (by omega)]
      exact this
    refine step_value (v := vOf agg cs) (w' := w) ?_ h
    simp only [execOp, hx, Sem.run_bind, run_load hT w g o cs hr hlen, Result.andThen_ok, Sem.run_pure]

theorem s_store_own {T F : TypeId} {x y : Operand} {agg : Bool} {z : Nat} {zero : List Value} {bb : Nat} {v p u : Value} {o k zz n : Nat} {c cs : List Value} (hst : St S M w) (hx : evF l x = p) (hp : PtO v p o) (hk : M[k]? = some (.sl v F zz n c))
    (hT : Ty P T agg z zero bb) (hy : evF l y = u) (hc : u.cells.toList = cs) (hl : cs.length = z) (h1 : cs.all (·.oneCell') = true) (hf : o + z ≤ c.length)
    (h : ∀ w', St S (M.set k (.sl v F zz n (c.take o ++ cs ++ c.drop (o + z)))) w' → wpList P ops Q rest ⟨l.toArray, D⟩ w') :
    wpList P ops Q (⟨none, .store T x y, ty, pos, af, none⟩ :: rest) ⟨l.toArray, D⟩ w := by
  subst hl
  obtain ⟨g, n', cap', rfl, rfl⟩ := hp
  have hmv := hst.move hk
  have h0 := hst.get hk
  rcases h0.2 with ⟨e, _⟩ | ⟨g', cap, cur, fz, e, hg, hfz, hnc, hcm, hcs, htk⟩
  · cases e
  · obtain ⟨hgg, hnn, hcc⟩ : g = g' ∧ n' = n ∧ cap' = cap := by simpa using e
    subst hgg; subst hcc
    have hcl := h0.1
    have hcur : n * zz ≤ cur.size := Nat.le_trans (Nat.mul_le_mul_right _ hnc) hcs
    have hfit : o + cs.length ≤ cur.toList.length := by simp; omega
    have hat := setCells_at g F fz cs o w cur.toList (by simpa using hg) hfit
    obtain ⟨e1, e2, e3⟩ := setCells_world g cs o w
    have hcell : ∀ j, j < cs.length → (w.cell? ⟨g, o + 0 + j, none⟩).isSome = true := fun j hj => by
      have hlt : o + j < cur.size := by simp at hfit; omega
      simp only [World.cell?, hg]
      simp [hlt]
    have hfro : ∀ j, j < cs.length → w.frozen? ⟨g, o + 0 + j, none⟩ = false := fun j hj => by
      have := hfz (o + j) (by simp at hfit; omega)
      simp only [World.frozen?, hg]
      simpa using this
    have hrun := run_storeCells_cells (P := P) g o cs 0 w hcell hfro (fun u hu => List.all_eq_true.1 h1 u hu)
    refine step_skip (w' := w.setCells g o cs) ?_ (h _ (St.back hk (hmv.set e1 e2 e3 ⟨?_, .inr ⟨g, cap', _, fz, by rw [hnn], hat, ?_, hnc, hcm, ?_, ?_⟩⟩ (fun b hb => .inl hb) (fun b _ hne => setCells_other g cs _ w b (fun e => hne (by simp [Chunk.own, Value.ownBlock, e]))))))
    · have hsz : u.cells.size = cs.length := by rw [← hc]; simp
      simp only [execOp, hx, hy, Instr.storeAt, Instr.sureAddr, Sem.run_bind, Sem.run_pure, Result.andThen_ok, storeVar, hT.run_sizeOf, hsz, ne_eq, not_true_eq_false, if_false]
      rw [hc]
      simp only [Nat.add_zero] at hrun
      rw [hrun]
      rfl
    · simp only [List.length_append, List.length_take, List.length_drop]; omega
    · intro j hj
      refine hfz j ?_
      simp only [List.size_toArray, List.length_append, List.length_take, List.length_drop, Array.length_toList] at hj hfit
      omega
    · simp only [List.size_toArray, List.length_append, List.length_take, List.length_drop, Array.length_toList] at hfit ⊢
      omega
    · rw [List.toList_toArray, ← htk]
      have hlc : (cur.toList.take (n * zz)).length = n * zz := by simp; omega
      rw [List.take_append, List.take_append]
      simp only [List.length_append, List.length_take, Array.length_toList] at hfit ⊢
      have hmin : min o cur.size = o := by omega
      rw [hmin, List.take_take, List.take_take, List.drop_take]
      have ho : o ≤ n * zz := by omega
      rw [Nat.min_eq_left ho, Nat.min_eq_right ho]
      rw [List.take_of_length_le (show cs.length ≤ n * zz - o by omega)]
end
end Go.Sl

/- Rules of a small separation logic over the model's worlds: what only reads, as one value in every world of a class; in a plain region and in one that draws its order. General over the program. -/
namespace Go.Sl
set_option linter.unusedSimpArgs false
set_option linter.unusedVariables false
open Go.RowKit
variable {P : Program}
section
variable {ops : Array Oper} {rest : List Oper} {Q : Exit → Act → World → Prop} {l : List Value} {D : List Deferred} {w : World} {d : Tmp} {dd : Option Tmp} {ty : TypeId} {pos : String} {af : Array Edge} {S : Snap} {M : List Chunk}
variable {α β : Type} [Rep α] [Rep β]

/-- In every world of the class the operation yields v and leaves the world as it is. -/
def Qt (P : Program) (l : List Value) (op : Op) (S : Snap) (M : List Chunk) (v : Value) : Prop :=
  ∀ (dst : Option Tmp) (ty : TypeId) (pos : String) (af : Array Edge) (w : World), St S M w → (execOp (evF l) ⟨dst, op, ty, pos, af, none⟩).run P w = .ok (.value v) w

theorem s_qt {op : Op} {v : Value} (hst : St S M w) (hq : Qt P l op S M v) (h : wpList P ops Q rest ⟨(l.set d v).toArray, D⟩ w) :
    wpList P ops Q (⟨some d, op, ty, pos, af, none⟩ :: rest) ⟨l.toArray, D⟩ w := step_value (hq _ _ _ _ w hst) h

theorem s_ex {op : Op} {F : Value → Prop} (hst : St S M w) (hq : ∃ v, F v ∧ Qt P l op S M v) (h : ∀ v, F v → wpList P ops Q rest ⟨(l.set d v).toArray, D⟩ w) :
    wpList P ops Q (⟨some d, op, ty, pos, af, none⟩ :: rest) ⟨l.toArray, D⟩ w := let ⟨v, hf, hq⟩ := hq; s_qt hst hq (h v hf)

/-! ### Regions that draw their order -/
variable {K : Act → Prop}
theorem q_step {o : Oper} {v : Value} (hg : o.guard = none) (hq : ∀ w, St S M w → Oper.quietUpon P (St S M) w v ((execOp (evF l) o).run P w)) (h : wpQuiet P ops (St S M) K rest ⟨(putD l o.dst v).toArray, D⟩) :
    wpQuiet P ops (St S M) K (o :: rest) ⟨l.toArray, D⟩ := by
  unfold wpQuiet
  rw [if_pos (by simp [Region.wanted, hg])]
  refine ⟨v, fun w hw => ?_, ?_⟩
  · unfold Oper.quietAt
    rw [evF_eq]
    exact hq w hw
  · cases ho : o.dst <;> simpa [Act.put, putD, ho] using h

theorem q_qt {op : Op} {v : Value} (hq : Qt P l op S M v) (h : wpQuiet P ops (St S M) K rest ⟨(l.set d v).toArray, D⟩) :
    wpQuiet P ops (St S M) K (⟨some d, op, ty, pos, af, none⟩ :: rest) ⟨l.toArray, D⟩ :=
  q_step rfl (fun w hw => by rw [hq _ _ _ _ w hw]; exact ⟨rfl, rfl⟩) h

theorem q_ex {op : Op} {F : Value → Prop} (hq : ∃ v, F v ∧ Qt P l op S M v) (h : ∀ v, F v → wpQuiet P ops (St S M) K rest ⟨(l.set d v).toArray, D⟩) :
    wpQuiet P ops (St S M) K (⟨some d, op, ty, pos, af, none⟩ :: rest) ⟨l.toArray, D⟩ := let ⟨v, hf, hq⟩ := hq; q_qt hq (h v hf)

theorem q_guard_yes {op : Op} {g : Nat × Bool} (hg : yielded ops l.toArray g.1 = some g.2) (h : wpQuiet P ops (St S M) K (⟨dd, op, ty, pos, af, none⟩ :: rest) ⟨l.toArray, D⟩) :
    wpQuiet P ops (St S M) K (⟨dd, op, ty, pos, af, some g⟩ :: rest) ⟨l.toArray, D⟩ := by
  unfold wpQuiet at h ⊢
  rw [if_pos (by simp [Region.wanted, hg])]
  rw [if_pos (by simp [Region.wanted])] at h
  exact h

theorem q_guard_no {op : Op} {g : Nat × Bool} (hg : (yielded ops l.toArray g.1 == some g.2) = false) (h : wpQuiet P ops (St S M) K rest ⟨(putD l dd undef).toArray, D⟩) :
    wpQuiet P ops (St S M) K (⟨dd, op, ty, pos, af, some g⟩ :: rest) ⟨l.toArray, D⟩ := by
  unfold wpQuiet
  rw [if_neg (by simpa [Region.wanted] using hg)]
  cases dd <;> simpa [Act.put, putD] using h

/-- A call in a region that draws its order: it returns v, whatever the world of the class, and leaves a world of the class. -/
theorem q_call {f : FuncId} {xs : List Operand} {ats : Array TypeId} {args : List Value} {v : Value} (c : ∀ w, St S M w → Rets P f args w fun v' w' => v' = v ∧ St S M w') (hb : Body P f) (ha : xs.map (evF l) = args)
    (h : wpQuiet P ops (St S M) K rest ⟨(putD l dd v).toArray, D⟩) :
    wpQuiet P ops (St S M) K (⟨dd, .call { callee := .value (.func f), args := xs.toArray, argTypes := ats }, ty, pos, af, none⟩ :: rest) ⟨l.toArray, D⟩ := by
  refine q_step rfl (fun w hw => ?_) h
  subst ha
  have hr : (execOp (evF l) ⟨dd, .call { callee := .value (.func f), args := xs.toArray, argTypes := ats }, ty, pos, af, none⟩).run P w = .ok (.enter f (xs.map (evF l)).toArray) w := by
    have := hb.enter (w := w) (xs.map (evF l)).toArray
    simp only [execOp, resolve, Deferred.ofValue, evF, Sem.run_bind, Sem.run_pure, Result.andThen_ok, invoke]
    simpa using this
  rw [hr]
  exact ⟨rfl, Calls.mono (c w hw) fun e w' ⟨v', he, hv, hs⟩ => ⟨by rw [he, hv], hs⟩⟩

/-- Where the region's own operations only read: one walk in the order of the text. -/
theorem region_quiet {id : Nat} {lo : List Oper} (hst : St S M w) (hm : P.follows .mixedOrders = true) (hB : Region.lexB .any lo.toArray = true)
    (h : wpQuiet P lo.toArray (St S M) (fun a' => ∀ w', St S M w' → Q .normal a' w') lo ⟨l.toArray, D⟩) : (Code.region id lo.toArray true).wp P Q ⟨l.toArray, D⟩ w :=
  wp_region_quiet hm hB (by have := hst.drew; exact this) (by simpa using h)

theorem q_nil {a : Act} (h : K a) : wpQuiet P ops (St S M) K [] a := h
theorem is_quiet {o : Oper} {a : Act} (g : wpQuiet P ops (St S M) K (o :: rest) a) : wpQuiet P ops (St S M) K (o :: rest) a := g

/-! ### What reads -/
theorem qt_load {T : TypeId} {x : Operand} {agg : Bool} {z : Nat} {zero : List Value} {bb : Nat} {b off : Nat} {c cs : List Value} {B : TypeId} (hx : evF l x = .pointer (some ⟨b, off, none⟩)) (k : Nat) (hk : M[k]? = some (.box b c B))
    (hT : Ty P T agg z zero bb) (hc : (c.drop off).take z = cs) (hl : cs.length = z) : Qt P l (.load T x) S M (vOf agg cs) := fun dst ty pos af w hst => by
  simp only [execOp, hx, Sem.run_bind, run_load hT w b off cs (hc ▸ range_box (hst.get hk)) hl, Result.andThen_ok, Sem.run_pure]

theorem qt_ldp {T : TypeId} {x : Operand} {zero : List Value} {bb : Nat} {p : Value} {y : α} (hx : evF l x = p) (hp : Pt S p y)
    (hT : Ty P T (Rep.agg α) (Rep.z α) zero bb) : ∃ v, (∃ cs, v = vOf (Rep.agg α) cs ∧ Rep.R S cs y) ∧ Qt P l (.load T x) S M v := by
  obtain ⟨b, o, c, B, fz, rfl, hb, hR⟩ := hp
  refine ⟨_, ⟨_, rfl, hR⟩, fun dst ty pos af w hst => ?_⟩
  simp only [execOp, hx, Sem.run_bind, run_load hT w b o _ (range_of (hst.has _ _ hb)) (Rep.len hR), Result.andThen_ok, Sem.run_pure]

theorem qt_ldp_int {T : TypeId} {x : Operand} {zero : List Value} {bb : Nat} {p : Value} {y : Int} (hx : evF l x = p) (hp : Pt S p y) (hT : Ty P T false 1 zero bb) :
    ∃ v, (v = .int .i64 y ∧ I64 y) ∧ Qt P l (.load T x) S M v := by
  obtain ⟨v, ⟨cs, rfl, rfl, hi⟩, hq⟩ := qt_ldp (P := P) (M := M) hx hp hT
  exact ⟨_, ⟨rfl, hi⟩, hq⟩

theorem qt_ldp_u8 {T : TypeId} {x : Operand} {zero : List Value} {bb : Nat} {p : Value} {y : UInt8} (hx : evF l x = p) (hp : Pt S p y) (hT : Ty P T false 1 zero bb) :
    Qt P l (.load T x) S M (.int .u8 y.toNat) := by
  obtain ⟨v, ⟨cs, rfl, rfl⟩, hq⟩ := qt_ldp (P := P) (M := M) hx hp hT
  exact hq

theorem qt_ldp_bool {T : TypeId} {x : Operand} {zero : List Value} {bb : Nat} {p : Value} {y : Bool} (hx : evF l x = p) (hp : Pt S p y) (hT : Ty P T false 1 zero bb) :
    Qt P l (.load T x) S M (.bool y) := by
  obtain ⟨v, ⟨cs, rfl, rfl⟩, hq⟩ := qt_ldp (P := P) (M := M) hx hp hT
  exact hq

theorem qt_ldp_str {T : TypeId} {x : Operand} {zero : List Value} {bb : Nat} {p : Value} {y : Str} (hx : evF l x = p) (hp : Pt S p y) (hT : Ty P T false 1 zero bb) :
    ∃ v, (v = .string ⟨y.b.toArray⟩ ∧ y.b.length ≤ maxLen) ∧ Qt P l (.load T x) S M v := by
  obtain ⟨v, ⟨cs, rfl, rfl, hi⟩, hq⟩ := qt_ldp (P := P) (M := M) hx hp hT
  exact ⟨_, ⟨rfl, hi⟩, hq⟩

theorem qt_ldp_list {T : TypeId} {x : Operand} {zero : List Value} {bb : Nat} {p : Value} {y : List α} (hx : evF l x = p) (hp : Pt S p y) (hT : Ty P T false 1 zero bb) :
    ∃ v, (RSl S v y ∧ v.oneCell' = true) ∧ Qt P l (.load T x) S M v := by
  obtain ⟨v, ⟨cs, rfl, u, rfl, hu⟩, hq⟩ := qt_ldp (P := P) (M := M) hx hp hT
  exact ⟨u, ⟨hu, hu.oneCell⟩, hq⟩

theorem qt_index {T E : TypeId} {x i : Operand} {agg : Bool} {zero : List Value} {bb : Nat} {v : Value} {xs : List α} {k : IntKind} {n : Int} (hx : evF l x = v) (hv : RSl S v xs) (hi : evF l i = .int k n)
    (hT : SlT P T E) (hE : Ty P E agg (Rep.z α) zero bb) (h0 : 0 ≤ n) (hn : n.toNat < xs.length) : ∃ p, Pt S p (xs[n.toNat]) ∧ Qt P l (.indexAddr T x i) S M p := by
  rcases hv with ⟨_, _, _, rfl, _⟩ | ⟨b, o, cap, c, B, fz, rfl, hb, hc, hm, hRL⟩
  · simp at hn
  · refine ⟨.pointer (some ⟨b, o + n.toNat * Rep.z α, none⟩), ⟨b, _, c, B, fz, rfl, hb, ?_⟩, fun dst ty pos af w hst => ?_⟩
    · have := hRL.at_ n.toNat hn
      rw [List.drop_take, List.take_take, List.drop_drop, Nat.min_eq_left (by
        have : n.toNat * Rep.z α + Rep.z α ≤ xs.length * Rep.z α := by rw [← Nat.succ_mul]; exact Nat.mul_le_mul_right _ hn
        omega)] at this
      exact this
    · have hlt : n < xs.length := by omega
      simp [execOp, hx, hi, Instr.indexAt, asIntOf, run_underlying hT.u, h0, hlt, hE.run_sizeOf, Addr.add_mid]

theorem qt_len {T : TypeId} {E : TypeId} {x : Operand} {v : Value} {xs : List α} (hx : evF l x = v) (hv : RSl S v xs) (hT : SlT P T E) :
    Qt P l (.call { callee := .builtin .len, args := #[x], argTypes := #[T] }) S M (.int .i64 xs.length) := fun dst ty pos af w hst => by
  rcases hv with ⟨ad, cap, rfl, rfl, _⟩ | ⟨b, o, cap, c, B, fz, rfl, hb, hc, hm, hRL⟩ <;>
    simp [execOp, resolve, invoke, builtin, hx, Builtin.len_, run_underlying hT.u, goInt]

theorem qt_field {T : TypeId} {k off : Nat} {x : Operand} {b o : Nat} (hx : evF l x = .pointer (some ⟨b, o, none⟩)) (hT : FldT P T k off) :
    Qt P l (.fieldAddr T x k) S M (.pointer (some ⟨b, o + off, none⟩)) := fun dst ty pos af w hst => by
  simp only [execOp, hx, Sem.run_bind, run_fieldAt hT, Result.andThen_ok, Sem.run_pure]

theorem qt_fieldp {T : TypeId} {k off off' : Nat} {get : α → β} {put : α → β → α} {x : Operand} {p : Value} {y : α} (hx : evF l x = p) (hp : Pt S p y) (hT : FldT P T k off) (_hF : HasF α k β off' get put) (ho : off = off') :
    ∃ q, Pt S q (get y) ∧ Qt P l (.fieldAddr T x k) S M q := by
  subst ho
  obtain ⟨b, o, c, B, fz, rfl, hb, hR⟩ := id hp
  exact ⟨_, Pt.field (k := k) (put := put) hp, qt_field hx hT⟩

theorem qt_indexA {T E : TypeId} {n : Nat} {x i : Operand} {agg : Bool} {z : Nat} {zero : List Value} {bb : Nat} {b o : Nat} {k : IntKind} {j : Int} (hx : evF l x = .pointer (some ⟨b, o, none⟩)) (hi : evF l i = .int k j)
    (hT : ArrT P T n E) (hE : Ty P E agg z zero bb) (h0 : 0 ≤ j) (hn : j.toNat < n) : Qt P l (.indexAddr T x i) S M (.pointer (some ⟨b, o + j.toNat * z, none⟩)) := fun dst ty pos af w hst => by
  have hlt : j < n := by omega
  simp [execOp, hx, hi, Instr.indexAt, asIntOf, run_underlying hT.u, Instr.sureAddr, h0, hlt, hE.run_sizeOf, Addr.add_mid]

theorem qt_indexAp {T E : TypeId} {n m : Nat} {x i : Operand} {agg : Bool} {zero : List Value} {bb : Nat} {p : Value} {y : Arr α m} {k : IntKind} {j : Int} (hx : evF l x = p) (hp : Pt S p y) (hi : evF l i = .int k j)
    (hT : ArrT P T n E) (hE : Ty P E agg (Rep.z α) zero bb) (hm : n = m) (h0 : 0 ≤ j) (hn : j.toNat < y.l.length) : ∃ q, Pt S q y.l[j.toNat] ∧ Qt P l (.indexAddr T x i) S M q := by
  subst hm
  obtain ⟨b, o, c, B, fz, rfl, hb, hR⟩ := id hp
  exact ⟨_, Pt.elem hp _ hn, qt_indexA hx hi hT hE h0 (hR.1 ▸ hn)⟩

/-- A pair as an array of two. -/
theorem qt_indexP0 {T E : TypeId} {x i : Operand} {agg : Bool} {zero : List Value} {bb : Nat} {p : Value} {y : α × α} {k : IntKind} (hx : evF l x = p) (hp : Pt S p y) (hi : evF l i = .int k 0)
    (hT : ArrT P T 2 E) (hE : Ty P E agg (Rep.z α) zero bb) : ∃ q, Pt S q y.1 ∧ Qt P l (.indexAddr T x i) S M q := by
  obtain ⟨b, o, c, B, fz, rfl, hb, hR⟩ := id hp
  refine ⟨_, ⟨b, o, c, B, fz, rfl, hb, ?_⟩, by have := qt_indexA (S := S) (M := M) hx hi hT hE (by omega) (by omega); simpa using this⟩
  have h1 : Rep.R S (((c.toList.drop o).take (Rep.z α + Rep.z α)).take (Rep.z α)) y.1 := hR.2.1
  rwa [List.take_take, Nat.min_eq_left (by omega)] at h1

theorem qt_indexP1 {T E : TypeId} {x i : Operand} {agg : Bool} {zero : List Value} {bb : Nat} {p : Value} {y : α × α} {k : IntKind} (hx : evF l x = p) (hp : Pt S p y) (hi : evF l i = .int k 1)
    (hT : ArrT P T 2 E) (hE : Ty P E agg (Rep.z α) zero bb) : ∃ q, Pt S q y.2 ∧ Qt P l (.indexAddr T x i) S M q := by
  obtain ⟨b, o, c, B, fz, rfl, hb, hR⟩ := id hp
  refine ⟨_, ⟨b, o + Rep.z α, c, B, fz, rfl, hb, ?_⟩, by have := qt_indexA (S := S) (M := M) hx hi hT hE (by omega) (by omega); simpa using this⟩
  have h1 : Rep.R S (((c.toList.drop o).take (Rep.z α + Rep.z α)).drop (Rep.z α)) y.2 := hR.2.2
  rwa [List.drop_take, List.drop_drop, show Rep.z α + Rep.z α - Rep.z α = Rep.z α from by omega] at h1

theorem qt_slice {T E : TypeId} {x : Operand} {lo hi mx : Option Operand} {agg : Bool} {zero : List Value} {bb : Nat} {v : Value} {xs : List α} {a b : Nat} (hx : evF l x = v) (hv : RSl S v xs) (hT : SlT P T E) (hE : Ty P E agg (Rep.z α) zero bb)
    (hl : Bd (lo.map (evF l)) 0 a) (hh : Bd (hi.map (evF l)) xs.length b) (hm : mx = none ∨ (∃ k m, mx.map (evF l) = some (.int k (m : Nat)) ∧ b ≤ m ∧ m ≤ xs.length ∧ hi.isSome = true)) (h1 : a ≤ b) (h2 : b ≤ xs.length) :
    ∃ v', RSl S v' ((xs.drop a).take (b - a)) ∧ Qt P l (.slice T x lo hi mx) S M v' := by
  obtain ⟨ad, cap, rfl, hc, _⟩ := hv.form
  rcases hm with rfl | ⟨k, m, hmx, hbm, hml, his⟩
  · refine ⟨_, hv.sub rfl a b cap h1 h2 (by omega) (Nat.le_refl _), fun dst ty pos af w hst => ?_⟩
    simp only [execOp, hx, Sem.run_bind]
    rw [run_sliceAt hT hE hl hh (mx := (none : Option Operand).map (evF l)) (.inl ⟨rfl, rfl⟩) h1 (by omega) (Nat.le_refl _) (by simp)]
    rfl
  · refine ⟨_, hv.sub rfl a b m h1 h2 hbm (by omega), fun dst ty pos af w hst => ?_⟩
    simp only [execOp, hx, Sem.run_bind]
    rw [run_sliceAt hT hE hl hh (m := m) (.inr ⟨k, hmx⟩) h1 hbm (by omega) (by intro _; simpa using his)]
    rfl

theorem qt_string {src dst E : TypeId} {x : Operand} {v : Value} {b : List UInt8} (hx : evF l x = v) (hv : RSl S v b) (hs : SlT P src E) (he : P.underlying E = some (.int .u8)) (hd : P.underlying dst = some .string) :
    Qt P l (.convert src dst x) S M (.string ⟨b.toArray⟩) := fun dst ty pos af w hst => by
  rcases hv with ⟨ad, cap, rfl, rfl, _⟩ | ⟨b0, o, cap0, c, T, fz, rfl, hb, hc, hm, hRL⟩
  · have := run_string (P := P) (w := w) (ad := ad) (cap := cap) (b := []) hs he hd (.inl rfl)
    simp at this
    simp [execOp, hx, this]
  · have := run_string (P := P) (w := w) (ad := some ⟨b0, o, none⟩) (cap := cap0) (b := b) hs he hd (.inr ⟨b0, o, rfl, by rw [← hRL.eq_u8s]; exact range_of (hst.has _ _ hb)⟩)
    simp [execOp, hx, this]

theorem qt_len_own {T E F : TypeId} {x : Operand} {v : Value} {k z n : Nat} {c : List Value} (hx : evF l x = v) (hk : M[k]? = some (.sl v F z n c)) (hT : SlT P T E) :
    Qt P l (.call { callee := .builtin .len, args := #[x], argTypes := #[T] }) S M (.int .i64 n) := fun dst ty pos af w hst => by
  rcases (hst.get hk).2 with ⟨rfl, rfl⟩ | ⟨g, cap, cur, fz, rfl, _⟩ <;>
    simp [execOp, resolve, invoke, builtin, hx, Builtin.len_, run_underlying hT.u, goInt]

theorem qt_load_own {T F : TypeId} {x : Operand} {agg : Bool} {z : Nat} {zero : List Value} {bb : Nat} {v p : Value} {o k zz n : Nat} {c cs : List Value} (hx : evF l x = p) (hp : PtO v p o) (hk : M[k]? = some (.sl v F zz n c))
    (hT : Ty P T agg z zero bb) (hc : (c.drop o).take z = cs) (hl : o + z ≤ c.length) : Qt P l (.load T x) S M (vOf agg cs) := fun dst ty pos af w hst => by
  obtain ⟨g, n', cap', rfl, rfl⟩ := hp
  have h0 := hst.get hk
  rcases h0.2 with ⟨e, _⟩ | ⟨g', cap, cur, fz, e, hg, hfz, hnc, hcm, hcs, htk⟩
  · cases e
  · obtain ⟨rfl, rfl, rfl⟩ : g = g' ∧ n' = n ∧ cap' = cap := by simpa using e
    have hlen : cs.length = z := by rw [← hc]; simp; omega
    have hr : w.rangeAt g o cs := by
      have := range_of (o := o) (n := z) hg
      rw [← hc, ← htk]
      rw [← htk] at hl
      simp only [List.length_take] at hl
      rw [List.drop_take, List.take_take, Nat.min_eq_left (by omega)]
      exact this
    simp only [execOp, hx, Sem.run_bind, run_load hT w g o cs hr hlen, Result.andThen_ok, Sem.run_pure]

theorem qt_field_own {T : TypeId} {kf off : Nat} {x : Operand} {v p : Value} {o : Nat} (hx : evF l x = p) (hp : PtO v p o) (hT : FldT P T kf off) :
    ∃ q, PtO v q (o + off) ∧ Qt P l (.fieldAddr T x kf) S M q := by
  obtain ⟨g, n, cap, rfl, rfl⟩ := hp
  exact ⟨_, ⟨g, n, cap, rfl, rfl⟩, qt_field hx hT⟩

/-- The own slice is not nil (it has an element): its elements' addresses. -/
theorem qt_index_own {T E F : TypeId} {x i : Operand} {agg : Bool} {zero : List Value} {bb : Nat} {v : Value} {k z n : Nat} {c : List Value} {kk : IntKind} {j : Int} (hst : St S M w) (hx : evF l x = v) (hk : M[k]? = some (.sl v F z n c)) (hi : evF l i = .int kk j)
    (hT : SlT P T E) (hE : Ty P E agg z zero bb) (h0 : 0 ≤ j) (hn : j.toNat < n) : ∃ p, PtO v p (j.toNat * z) ∧ Qt P l (.indexAddr T x i) S M p := by
  rcases (hst.get hk).2 with ⟨rfl, rfl⟩ | ⟨g, cap, cur, fz, rfl, _⟩
  · omega
  · refine ⟨.pointer (some ⟨g, j.toNat * z, none⟩), ⟨g, n, cap, rfl, rfl⟩, fun dst ty pos af w _ => ?_⟩
    have hlt : j < n := by omega
    simp [execOp, hx, hi, Instr.indexAt, asIntOf, run_underlying hT.u, h0, hlt, hE.run_sizeOf, Addr.add_mid]

theorem kq_plain {o : Oper} {a : Act} (_h : plainOp o.op = true) (g : wpQuiet P ops (St S M) K (o :: rest) a) : wpQuiet P ops (St S M) K (o :: rest) a := g

/-! ### Plain operations -/
theorem qt_move {x : Operand} {v : Value} (hx : evF l x = v) : Qt P l (.move x) S M v := fun dst ty pos af w _ => by simp [execOp, hx]
theorem qt_assign {x : Operand} {v : Value} (hx : evF l x = v) : Qt P l (.assign x) S M v := fun dst ty pos af w _ => by simp [execOp, hx]
theorem qt_pick_t {c x y : Operand} {v : Value} (hc : evF l c = .bool true) (hx : evF l x = v) : Qt P l (.pick c x y) S M v := fun dst ty pos af w _ => by simp [execOp, hc, hx, asBool]
theorem qt_pick_f {c x y : Operand} {v : Value} (hc : evF l c = .bool false) (hy : evF l y = v) : Qt P l (.pick c x y) S M v := fun dst ty pos af w _ => by simp [execOp, hc, hy, asBool]
theorem qt_not {T : TypeId} {x : Operand} {b : Bool} (hx : evF l x = .bool b) : Qt P l (.unOp .not T x) S M (.bool (!b)) := fun dst ty pos af w _ => by simp [execOp, hx, Op.unary]
theorem qt_lss {T U : TypeId} {x y : Operand} {k : IntKind} {a b : Int} (hx : evF l x = .int k a) (hy : evF l y = .int k b) : Qt P l (.binOp .lss T x y U) S M (.bool (decide (a < b))) := fun dst ty pos af w _ => by
  simp [execOp, hx, hy, binOp_lss, eqGuard_at_int]
theorem qt_leq {T U : TypeId} {x y : Operand} {k : IntKind} {a b : Int} (hx : evF l x = .int k a) (hy : evF l y = .int k b) : Qt P l (.binOp .leq T x y U) S M (.bool (decide (a ≤ b))) := fun dst ty pos af w _ => by
  simp [execOp, hx, hy, binOp_leq, eqGuard_at_int]
theorem qt_gtr {T U : TypeId} {x y : Operand} {k : IntKind} {a b : Int} (hx : evF l x = .int k a) (hy : evF l y = .int k b) : Qt P l (.binOp .gtr T x y U) S M (.bool (decide (a > b))) := fun dst ty pos af w _ => by
  simp [execOp, hx, hy, binOp_gtr, eqGuard_at_int]
theorem qt_geq {T U : TypeId} {x y : Operand} {k : IntKind} {a b : Int} (hx : evF l x = .int k a) (hy : evF l y = .int k b) : Qt P l (.binOp .geq T x y U) S M (.bool (decide (a ≥ b))) := fun dst ty pos af w _ => by
  simp [execOp, hx, hy, binOp_geq, eqGuard_at_int]
theorem qt_eql {T U : TypeId} {x y : Operand} {k : IntKind} {a b : Int} (hx : evF l x = .int k a) (hy : evF l y = .int k b) : Qt P l (.binOp .eql T x y U) S M (.bool (a == b)) := fun dst ty pos af w _ => by
  simp [execOp, hx, hy, binOp_eql, eqGuard_at_int]
theorem qt_neq {T U : TypeId} {x y : Operand} {k : IntKind} {a b : Int} (hx : evF l x = .int k a) (hy : evF l y = .int k b) : Qt P l (.binOp .neq T x y U) S M (.bool (a != b)) := fun dst ty pos af w _ => by
  simp [execOp, hx, hy, binOp_neq, eqGuard_at_int]
theorem qt_add {T U : TypeId} {x y : Operand} {k : IntKind} {a b : Int} (hx : evF l x = .int k a) (hy : evF l y = .int k b) : Qt P l (.binOp .add T x y U) S M (.int k (k.wrap (a + b))) := fun dst ty pos af w _ => by
  simp [execOp, hx, hy, binOp_add, eqGuard_add, Op.intArith]
theorem qt_add' {T U : TypeId} {x y : Operand} {a b : Int} (hx : evF l x = .int .i64 a) (hy : evF l y = .int .i64 b) (hw : -9223372036854775808 ≤ a + b ∧ a + b ≤ 9223372036854775807) : Qt P l (.binOp .add T x y U) S M (.int .i64 (a + b)) := by
  have := qt_add (P := P) (S := S) (M := M) (T := T) (U := U) hx hy
  rwa [show IntKind.i64.wrap (a + b) = a + b from by rw [IntKind.wrap_i64]; omega] at this
theorem qt_sub {T U : TypeId} {x y : Operand} {k : IntKind} {a b : Int} (hx : evF l x = .int k a) (hy : evF l y = .int k b) : Qt P l (.binOp .sub T x y U) S M (.int k (k.wrap (a - b))) := fun dst ty pos af w _ => by
  simp [execOp, hx, hy, binOp_sub, eqGuard_sub, Op.intArith]
theorem qt_sub' {T U : TypeId} {x y : Operand} {a b : Int} (hx : evF l x = .int .i64 a) (hy : evF l y = .int .i64 b) (hw : -9223372036854775808 ≤ a - b ∧ a - b ≤ 9223372036854775807) : Qt P l (.binOp .sub T x y U) S M (.int .i64 (a - b)) := by
  have := qt_sub (P := P) (S := S) (M := M) (T := T) (U := U) hx hy
  rwa [show IntKind.i64.wrap (a - b) = a - b from by rw [IntKind.wrap_i64]; omega] at this
theorem qt_mul {T U : TypeId} {x y : Operand} {k : IntKind} {a b : Int} (hx : evF l x = .int k a) (hy : evF l y = .int k b) : Qt P l (.binOp .mul T x y U) S M (.int k (k.wrap (a * b))) := fun dst ty pos af w _ => by
  simp [execOp, hx, hy, binOp_mul, eqGuard_mul, Op.intArith]
theorem qt_mul' {T U : TypeId} {x y : Operand} {a b : Int} (hx : evF l x = .int .i64 a) (hy : evF l y = .int .i64 b) (hw : -9223372036854775808 ≤ a * b ∧ a * b ≤ 9223372036854775807) : Qt P l (.binOp .mul T x y U) S M (.int .i64 (a * b)) := by
  have := qt_mul (P := P) (S := S) (M := M) (T := T) (U := U) hx hy
  rwa [show IntKind.i64.wrap (a * b) = a * b from by rw [IntKind.wrap_i64]; omega] at this

theorem qt_max {x y : Operand} {ats : Array TypeId} {k k' : IntKind} {a b : Int} (hx : evF l x = .int k a) (hy : evF l y = .int k' b) : Qt P l (.call { callee := .builtin .max, args := #[x, y], argTypes := ats }) S M (.int k (max a b)) := fun dst ty pos af w _ => by
  have : (if b > a then b else a) = max a b := by omega
  simp [execOp, resolve, invoke, builtin, hx, hy, Builtin.max_, Builtin.max2, List.foldlM, this]
theorem qt_min {x y : Operand} {ats : Array TypeId} {k k' : IntKind} {a b : Int} (hx : evF l x = .int k a) (hy : evF l y = .int k' b) : Qt P l (.call { callee := .builtin .min, args := #[x, y], argTypes := ats }) S M (.int k (min a b)) := fun dst ty pos af w _ => by
  have : (if b < a then b else a) = min a b := by omega
  simp [execOp, resolve, invoke, builtin, hx, hy, Builtin.min_, Builtin.min2, List.foldlM, this]

/-! ### What a function hands back out of memory -/
/-- One result: in a slot, or out of an owned box. -/
def RVar (P : Program) (l : List Value) (w : World) : ResultVar → Value → Prop
  | .tmp t, v => nth l t = v
  | .cell a T, v => ∃ ad, nth l a = .pointer (some ad) ∧ (loadVar T ad).run P w = .ok v w

theorem rv_tmp {t : Tmp} {v : Value} (h : nth l t = v) : RVar P l w (.tmp t) v := h
theorem rv_cell {a : Tmp} {T : TypeId} {agg : Bool} {z : Nat} {zero : List Value} {bb : Nat} {b off : Nat} {c cs : List Value} {B : TypeId} (hst : St S M w) (hx : nth l a = .pointer (some ⟨b, off, none⟩)) (k : Nat) (hk : M[k]? = some (.box b c B))
    (hT : Ty P T agg z zero bb) (hc : (c.drop off).take z = cs) (hl : cs.length = z) : RVar P l w (.cell a T) (vOf agg cs) :=
  ⟨_, hx, by
    have := run_load hT w b off cs (hc ▸ range_box (hst.get hk)) hl
    simpa only [Instr.loadAt, Instr.sureAddr, Sem.run_bind, Sem.run_pure, Result.andThen_ok] using this⟩

theorem ret_one {fn : Func} {R : Ending → World → Prop} {r : ResultVar} {v : Value} (hr : fn.results = #[r]) (h : RVar P l w r v) (hR : R (.returned v) w) : bodyPost P fn R .ret ⟨l.toArray, []⟩ w := by
  refine bodyPost_ret (v := v) ?_ rfl hR
  have hn : ∀ t, nth l t = l[t]?.getD undef := fun t => by simp [nth_eq]
  cases r <;> simp only [RVar, hn] at h <;> (try obtain ⟨ad, h, k⟩ := h) <;> simp_all [results, asAddr]

theorem ret_cell {fn : Func} {R : Ending → World → Prop} {a : Tmp} {T : TypeId} {agg : Bool} {z : Nat} {zero : List Value} {bb : Nat} {b off : Nat} {c cs : List Value} {B : TypeId} (hr : fn.results = #[.cell a T]) (hst : St S M w) (hx : nth l a = .pointer (some ⟨b, off, none⟩)) (k : Nat) (hk : M[k]? = some (.box b c B))
    (hT : Ty P T agg z zero bb) (hc : (c.drop off).take z = cs) (hl : cs.length = z) (hR : R (.returned (vOf agg cs)) w) : bodyPost P fn R .ret ⟨l.toArray, []⟩ w :=
  ret_one hr (rv_cell hst hx k hk hT hc hl) hR

theorem ret_two {fn : Func} {R : Ending → World → Prop} {r1 r2 : ResultVar} {v1 v2 : Value} (hr : fn.results = #[r1, r2]) (h1 : RVar P l w r1 v1) (h2 : RVar P l w r2 v2) (hR : R (.returned (.tuple #[v1, v2])) w) : bodyPost P fn R .ret ⟨l.toArray, []⟩ w := by
  refine bodyPost_ret (v := .tuple #[v1, v2]) ?_ rfl hR
  have hn : ∀ t, nth l t = l[t]?.getD undef := fun t => by simp [nth_eq]
  cases r1 <;> cases r2 <;> simp only [RVar, hn] at h1 h2 <;> (try obtain ⟨ad, h1, k1⟩ := h1) <;> (try obtain ⟨ad2, h2, k2⟩ := h2) <;> simp_all [results, asAddr]

theorem ret_three {fn : Func} {R : Ending → World → Prop} {r1 r2 r3 : ResultVar} {v1 v2 v3 : Value} (hr : fn.results = #[r1, r2, r3]) (h1 : RVar P l w r1 v1) (h2 : RVar P l w r2 v2) (h3 : RVar P l w r3 v3) (hR : R (.returned (.tuple #[v1, v2, v3])) w) : bodyPost P fn R .ret ⟨l.toArray, []⟩ w := by
  refine bodyPost_ret (v := .tuple #[v1, v2, v3]) ?_ rfl hR
  have hn : ∀ t, nth l t = l[t]?.getD undef := fun t => by simp [nth_eq]
  cases r1 <;> cases r2 <;> cases r3 <;> simp only [RVar, hn] at h1 h2 h3 <;> (try obtain ⟨ad, h1, k1⟩ := h1) <;> (try obtain ⟨ad2, h2, k2⟩ := h2) <;> (try obtain ⟨ad3, h3, k3⟩ := h3) <;> simp_all [results, asAddr]

/-! ### The kind of an operation: a gate that is cheap to try -/
theorem k_load {x : Operand} {T : TypeId} {g : Option (Nat × Bool)} {a : Act} (h : wpList P ops Q (⟨dd, .load T x, ty, pos, af, g⟩ :: rest) a w) : wpList P ops Q (⟨dd, .load T x, ty, pos, af, g⟩ :: rest) a w := h
theorem k_store {x y : Operand} {T : TypeId} {g : Option (Nat × Bool)} {a : Act} (h : wpList P ops Q (⟨dd, .store T x y, ty, pos, af, g⟩ :: rest) a w) : wpList P ops Q (⟨dd, .store T x y, ty, pos, af, g⟩ :: rest) a w := h
theorem k_index {x y : Operand} {T : TypeId} {g : Option (Nat × Bool)} {a : Act} (h : wpList P ops Q (⟨dd, .indexAddr T x y, ty, pos, af, g⟩ :: rest) a w) : wpList P ops Q (⟨dd, .indexAddr T x y, ty, pos, af, g⟩ :: rest) a w := h
theorem k_field {x : Operand} {T : TypeId} {k : Nat} {g : Option (Nat × Bool)} {a : Act} (h : wpList P ops Q (⟨dd, .fieldAddr T x k, ty, pos, af, g⟩ :: rest) a w) : wpList P ops Q (⟨dd, .fieldAddr T x k, ty, pos, af, g⟩ :: rest) a w := h
theorem k_call {c : Call} {g : Option (Nat × Bool)} {a : Act} (h : wpList P ops Q (⟨dd, .call c, ty, pos, af, g⟩ :: rest) a w) : wpList P ops Q (⟨dd, .call c, ty, pos, af, g⟩ :: rest) a w := h
theorem k_bin {b : BinOp} {x y : Operand} {T U : TypeId} {g : Option (Nat × Bool)} {a : Act} (h : wpList P ops Q (⟨dd, .binOp b T x y U, ty, pos, af, g⟩ :: rest) a w) : wpList P ops Q (⟨dd, .binOp b T x y U, ty, pos, af, g⟩ :: rest) a w := h
theorem k_guard {op : Op} {g : Nat × Bool} {a : Act} (h : wpList P ops Q (⟨dd, op, ty, pos, af, some g⟩ :: rest) a w) : wpList P ops Q (⟨dd, op, ty, pos, af, some g⟩ :: rest) a w := h
theorem kq_load {x : Operand} {T : TypeId} {g : Option (Nat × Bool)} {a : Act} (h : wpQuiet P ops (St S M) K (⟨dd, .load T x, ty, pos, af, g⟩ :: rest) a) : wpQuiet P ops (St S M) K (⟨dd, .load T x, ty, pos, af, g⟩ :: rest) a := h
theorem kq_index {x y : Operand} {T : TypeId} {g : Option (Nat × Bool)} {a : Act} (h : wpQuiet P ops (St S M) K (⟨dd, .indexAddr T x y, ty, pos, af, g⟩ :: rest) a) : wpQuiet P ops (St S M) K (⟨dd, .indexAddr T x y, ty, pos, af, g⟩ :: rest) a := h
theorem kq_field {x : Operand} {T : TypeId} {k : Nat} {g : Option (Nat × Bool)} {a : Act} (h : wpQuiet P ops (St S M) K (⟨dd, .fieldAddr T x k, ty, pos, af, g⟩ :: rest) a) : wpQuiet P ops (St S M) K (⟨dd, .fieldAddr T x k, ty, pos, af, g⟩ :: rest) a := h
theorem kq_call {c : Call} {g : Option (Nat × Bool)} {a : Act} (h : wpQuiet P ops (St S M) K (⟨dd, .call c, ty, pos, af, g⟩ :: rest) a) : wpQuiet P ops (St S M) K (⟨dd, .call c, ty, pos, af, g⟩ :: rest) a := h
theorem kq_guard {op : Op} {g : Nat × Bool} {a : Act} (h : wpQuiet P ops (St S M) K (⟨dd, op, ty, pos, af, some g⟩ :: rest) a) : wpQuiet P ops (St S M) K (⟨dd, op, ty, pos, af, some g⟩ :: rest) a := h
end
end Go.Sl

/- Rules of a small separation logic over the model's worlds: '==' and '!=' on data without pointers. General over the program. -/
namespace Go.Sl
set_option linter.unusedSimpArgs false
set_option linter.unusedVariables false
open Go.RowKit
variable {P : Program}

def lit1 : Value → Lit
  | .bool b => .bool b
  | .int k n => .int k n
  | .string s => .string s.data.toList
  | _ => .bool false

def litCell : Value → Bool
  | .bool _ | .int _ _ | .string _ => true
  | _ => false

theorem lit1_inj {u v : Value} (hu : litCell u = true) (hv : litCell v = true) (h : lit1 u = lit1 v) : u = v := by
  cases u <;> simp [litCell] at hu <;> cases v <;> simp [litCell] at hv <;> simp_all [lit1]
  rename_i a b
  cases a; cases b
  simp_all

theorem map_lit1_inj : ∀ {a b : List Value}, a.all litCell = true → b.all litCell = true → a.map lit1 = b.map lit1 → a = b
  | [], [], _, _, _ => rfl
  | [], _ :: _, _, _, h => by simp at h
  | _ :: _, [], _, _, h => by simp at h
  | u :: a, v :: b, ha, hb, h => by
    simp only [List.all_cons, Bool.and_eq_true] at ha hb
    simp only [List.map_cons, List.cons.injEq] at h
    rw [lit1_inj ha.1 hb.1 h.1, map_lit1_inj ha.2 hb.2 h.2]

/-- Data whose cells say it all, and the cells the data. -/
class Key (P : Program) (T : TypeId) (α : Type) [Rep α] (d : outParam Nat) : Prop where
  key : ∀ {S : Snap} {cs : List Value} {x : α} (D : Nat), d ≤ D → Rep.R S cs x → P.keyLits D T cs = some (cs.map lit1)
  flat : ∀ {S S' : Snap} {cs cs' : List Value} {x : α}, Rep.R S cs x → Rep.R S' cs' x → cs = cs'
  inj : ∀ {S S' : Snap} {cs : List Value} {x y : α}, Rep.R S cs x → Rep.R S' cs y → x = y
  lits : ∀ {S : Snap} {cs : List Value} {x : α}, Rep.R S cs x → cs.all litCell = true

theorem Key.iff {T : TypeId} {α : Type} [Rep α] {d : Nat} (k : Key P T α d) {S S' : Snap} {cs cs' : List Value} {x y : α} (h : Rep.R S cs x) (h' : Rep.R S' cs' y) : cs.map lit1 = cs'.map lit1 ↔ x = y := by
  constructor
  · intro e
    obtain rfl := map_lit1_inj (k.lits h) (k.lits h') e
    exact k.inj h h'
  · rintro rfl
    rw [k.flat h h']

theorem key_int {T : TypeId} (hu : P.underlying T = some (.int .i64)) : Key P T Int 1 where
  key D hd h := by
    obtain ⟨D, rfl⟩ : ∃ q, D = q + 1 := ⟨D - 1, by omega⟩
    obtain ⟨rfl, hi⟩ := h
    have : (Lit.int .i64 _).wf = true := WalkArith.wf_i64 hi
    simp [Program.keyLits, hu, lit1, this]
  flat h h' := by rw [h.1, h'.1]
  inj h h' := by have := h.1.symm.trans h'.1; simpa using this
  lits h := by rw [h.1]; rfl

theorem key_u8 {T : TypeId} (hu : P.underlying T = some (.int .u8)) : Key P T UInt8 1 where
  key D hd h := by
    obtain ⟨D, rfl⟩ : ∃ q, D = q + 1 := ⟨D - 1, by omega⟩
    rename_i S cs x
    obtain rfl : cs = [.int .u8 x.toNat] := h
    have hx := x.toNat_lt
    have : (Lit.int .u8 (x.toNat : Int)).wf = true := by simp [Lit.wf, IntKind.min, IntKind.max, IntKind.signed, IntKind.bits]; omega
    simp [Program.keyLits, hu, lit1, this]
  flat h h' := by rw [show _ = _ from h, show _ = _ from h']
  inj h h' := by
    have := (show _ = _ from h).symm.trans h'
    simp only [List.cons.injEq, Value.int.injEq, true_and, and_true] at this
    exact UInt8.toNat_inj.1 (by omega)
  lits h := by rw [show _ = _ from h]; rfl

theorem key_bool {T : TypeId} (hu : P.underlying T = some .bool) : Key P T Bool 1 where
  key D hd h := by
    obtain ⟨D, rfl⟩ : ∃ q, D = q + 1 := ⟨D - 1, by omega⟩
    rw [show _ = _ from h]
    simp [Program.keyLits, hu, lit1]
  flat h h' := by rw [show _ = _ from h, show _ = _ from h']
  inj h h' := by have := (show _ = _ from h).symm.trans h'; simpa using this
  lits h := by rw [show _ = _ from h]; rfl

theorem key_str {T : TypeId} (hu : P.underlying T = some .string) : Key P T Str 1 where
  key D hd h := by
    obtain ⟨D, rfl⟩ : ∃ q, D = q + 1 := ⟨D - 1, by omega⟩
    obtain ⟨rfl, hl⟩ := h
    simp [Program.keyLits, hu, lit1, ByteArray.size, hl]
  flat h h' := by rw [h.1, h'.1]
  inj h h' := by
    rename_i x y
    have := h.1.symm.trans h'.1
    simp at this
    cases x; cases y; simp_all
  lits h := by rw [h.1]; rfl

section
variable {α β : Type} [Rep α] [Rep β]

theorem RL.flat {S S' : Snap} {cs cs' : List Value} {xs : List α} (hf : ∀ {cs cs' : List Value} {x : α}, Rep.R S cs x → Rep.R S' cs' x → cs = cs') (h : RL S cs xs) (h' : RL S' cs' xs) : cs = cs' := by
  have hl : cs.length = cs'.length := by rw [h.1, h'.1]
  apply List.ext_getElem hl
  intro j hj hj'
  have hz : 0 < Rep.z α := by
    rcases Nat.eq_zero_or_pos (Rep.z α) with e | e
    · have := h.1; rw [e] at this; simp at this; subst this; simp at hj
    · exact e
  have hi : j / Rep.z α < xs.length := by rw [Nat.div_lt_iff_lt_mul hz, ← h.1]; exact hj
  have e := hf (h.at_ _ hi) (h'.at_ _ hi)
  have := congrArg (·[j % Rep.z α]?) e
  simp only [List.getElem?_take, Nat.mod_lt _ hz, if_true, List.getElem?_drop, Nat.div_add_mod'] at this
  rw [List.getElem?_eq_getElem hj, List.getElem?_eq_getElem hj'] at this
  exact Option.some.inj this

theorem RL.inj {S S' : Snap} {cs : List Value} {xs ys : List α} (hf : ∀ {cs : List Value} {x y : α}, Rep.R S cs x → Rep.R S' cs y → x = y) (hz : 0 < Rep.z α) (h : RL S cs xs) (h' : RL S' cs ys) : xs = ys := by
  have hl : xs.length = ys.length := Nat.eq_of_mul_eq_mul_right hz (h.1.symm.trans h'.1)
  apply List.ext_getElem hl
  intro j hj hj'
  exact hf (h.at_ j hj) (h'.at_ j hj')

theorem RL.lits {S : Snap} {cs : List Value} {xs : List α} (hf : ∀ {cs : List Value} {x : α}, Rep.R S cs x → cs.all litCell = true) (h : RL S cs xs) : cs.all litCell = true := by
  rw [List.all_eq_true]
  intro u hu
  obtain ⟨j, hj, rfl⟩ := List.mem_iff_getElem.1 hu
  have hz : 0 < Rep.z α := by
    rcases Nat.eq_zero_or_pos (Rep.z α) with e | e
    · have := h.1; rw [e] at this; simp at this; subst this; simp at hj
    · exact e
  have hi : j / Rep.z α < xs.length := by rw [Nat.div_lt_iff_lt_mul hz, ← h.1]; exact hj
  have := List.all_eq_true.1 (hf (h.at_ _ hi)) cs[j] (List.mem_iff_getElem?.2 ⟨j % Rep.z α, by
    rw [List.getElem?_take, if_pos (Nat.mod_lt _ hz), List.getElem?_drop, Nat.div_add_mod', List.getElem?_eq_getElem hj]⟩)
  exact this

theorem chunks (z : Nat) : ∀ (n : Nat) (cs : List Value), cs.length = n * z → ((List.range n).map fun i => (cs.drop (i * z)).take z).flatten = cs
  | 0, cs, h => by simp at h; subst h; simp
  | n + 1, cs, h => by
    rw [Nat.succ_mul] at h
    rw [List.range_succ_eq_map, List.map_cons, List.flatten_cons, List.map_map]
    have ih := chunks z n (cs.drop z) (by simp; omega)
    have e : ((fun i => (cs.drop (i * z)).take z) ∘ Nat.succ) = fun i => ((cs.drop z).drop (i * z)).take z := by
      funext i
      simp only [Function.comp_apply, List.drop_drop, Nat.succ_mul]
      rw [Nat.add_comm]
    rw [e, ih]
    simp

theorem mapM_some {γ δ : Type} {f : γ → Option δ} {g : γ → δ} : ∀ {l : List γ}, (∀ i ∈ l, f i = some (g i)) → l.mapM f = some (l.map g)
  | [], _ => by simp
  | a :: l, h => by
    rw [List.mapM_cons, h a (.head _), mapM_some (l := l) (fun i hi => h i (.tail _ hi))]
    rfl

theorem key_cells {T E : TypeId} {n d : Nat} (hT : ArrT P T n E) (hz : P.cellsOf E = Rep.z α) (hz' : P.cellsOf T = n * Rep.z α) (k : Key P E α d) {S : Snap} {cs : List Value} {xs : List α} (hl : xs.length = n) (h : RL S cs xs) (D : Nat) (hD : d + 1 ≤ D) :
    P.keyLits D T cs = some (cs.map lit1) := by
  obtain ⟨D, rfl⟩ : ∃ q, D = q + 1 := ⟨D - 1, by omega⟩
  subst hl
  have hm : (List.range xs.length).mapM (fun i => P.keyLits D E ((cs.drop (i * Rep.z α)).take (Rep.z α))) = some ((List.range xs.length).map fun i => ((cs.drop (i * Rep.z α)).take (Rep.z α)).map lit1) :=
    mapM_some fun i hi => k.key D (by omega) (h.at_ i (List.mem_range.1 hi))
  have hc := chunks (Rep.z α) xs.length cs h.1
  simp only [Program.keyLits, hT.u, hz, h.1, hz', if_true, hm, Option.map_some]
  congr 1
  rw [show (fun i => ((cs.drop (i * Rep.z α)).take (Rep.z α)).map lit1) = List.map lit1 ∘ (fun i => (cs.drop (i * Rep.z α)).take (Rep.z α)) from rfl, ← List.map_map, ← List.map_flatten, hc]

theorem key_arr {T E : TypeId} {n d : Nat} (hT : ArrT P T n E) (hz : P.cellsOf E = Rep.z α) (hz' : P.cellsOf T = n * Rep.z α) (hp : 0 < Rep.z α) [k : Key P E α d] : Key P T (Arr α n) (d + 1) where
  key D hD h := key_cells hT hz hz' k h.1 h.2 D hD
  flat h h' := RL.flat (fun a b => k.flat a b) h.2 h'.2
  inj {S S' cs x y} h h' := by
    have := RL.inj (fun a b => k.inj a b) hp h.2 h'.2
    cases x; cases y; simp_all
  lits h := RL.lits (fun a => k.lits a) h.2

theorem pair_RL {S : Snap} {cs : List Value} {x : α × α} (h : Rep.R S cs x) : RL S cs [x.1, x.2] := by
  obtain ⟨hl, h1, h2⟩ := h
  have := RL.append (RL.one_mk h1) (RL.one_mk h2)
  rwa [List.take_append_drop] at this

theorem key_pair {T E : TypeId} {d : Nat} (hT : ArrT P T 2 E) (hz : P.cellsOf E = Rep.z α) (hz' : P.cellsOf T = 2 * Rep.z α) (hp : 0 < Rep.z α) [k : Key P E α d] : Key P T (α × α) (d + 1) where
  key D hD h := key_cells hT hz hz' k rfl (pair_RL h) D hD
  flat h h' := RL.flat (fun a b => k.flat a b) (pair_RL h) (pair_RL h')
  inj {S S' cs x y} h h' := by
    have := RL.inj (fun a b => k.inj a b) hp (pair_RL h) (pair_RL h')
    cases x; cases y; simp_all
  lits h := RL.lits (fun a => k.lits a) (pair_RL h)

/-- Structs: the fields fs, the first at off, as the nested product β. -/
class KeyFs (P : Program) (fs : List Field) (off : Nat) (β : Type) [Rep β] (d : outParam Nat) : Prop where
  key : ∀ {S : Snap} {cs : List Value} {y : β} (D : Nat), d ≤ D → cs.length = off + Rep.z β → Rep.R S (cs.drop off) y →
    ∃ ls, fs.mapM (fun f => P.keyLits D f.type ((cs.drop f.offset).take (P.cellsOf f.type))) = some ls ∧ ls.flatten = (cs.drop off).map lit1
  flat : ∀ {S S' : Snap} {cs cs' : List Value} {x : β}, Rep.R S cs x → Rep.R S' cs' x → cs = cs'
  inj : ∀ {S S' : Snap} {cs : List Value} {x y : β}, Rep.R S cs x → Rep.R S' cs y → x = y
  lits : ∀ {S : Snap} {cs : List Value} {x : β}, Rep.R S cs x → cs.all litCell = true

theorem keyFs_nil {off : Nat} : KeyFs P [] off Unit 0 where
  key D _ hl h := ⟨[], by simp, by have e : List.drop off _ = [] := h; rw [e]; rfl⟩
  flat h h' := by rw [show _ = _ from h, show _ = _ from h']
  inj _ _ := rfl
  lits h := by rw [show _ = _ from h]; rfl

theorem keyFs_cons {f : Field} {fs : List Field} {off d d' : Nat} (ho : f.offset = off) (hz : P.cellsOf f.type = Rep.z α) [ka : Key P f.type α d] [kb : KeyFs P fs (off + Rep.z α) β d'] : KeyFs P (f :: fs) off (α × β) (max d d') where
  key {S cs y} D hD hl h := by
    subst ho
    have hzz : Rep.z (α × β) = Rep.z α + Rep.z β := rfl
    obtain ⟨ls, h1, h2⟩ := kb.key (S := S) (cs := cs) (y := y.2) D (by omega) (by omega) (by have := h.2.2; rwa [List.drop_drop] at this)
    refine ⟨((cs.drop f.offset).take (Rep.z α)).map lit1 :: ls, ?_, ?_⟩
    · rw [List.mapM_cons, hz, ka.key D (by omega) h.2.1, h1]; rfl
    · rw [List.flatten_cons, h2, ← List.map_append, ← List.drop_drop, List.take_append_drop]
  flat {S S' cs cs' x} h h' := by
    rw [← List.take_append_drop (Rep.z α) cs, ← List.take_append_drop (Rep.z α) cs', ka.flat h.2.1 h'.2.1, kb.flat h.2.2 h'.2.2]
  inj {S S' cs x y} h h' := Prod.ext (ka.inj h.2.1 h'.2.1) (kb.inj h.2.2 h'.2.2)
  lits {S cs x} h := by
    rw [← List.take_append_drop (Rep.z α) cs, List.all_append, ka.lits h.2.1, kb.lits h.2.2]; rfl

theorem key_struct {T : TypeId} {fs : Array Field} {d : Nat} (hT : P.underlying T = some (.struct fs)) (hz : P.cellsOf T = Rep.z α) (hn : fs.all (·.name != "_") = true) (k : KeyFs P fs.toList 0 α d) : Key P T α (d + 1) where
  key {S cs x} D hD h := by
    obtain ⟨D, rfl⟩ : ∃ q, D = q + 1 := ⟨D - 1, by omega⟩
    obtain ⟨ls, h1, h2⟩ := k.key (S := S) (cs := cs) (y := x) D (by omega) (by rw [Rep.len h]; omega) (by simpa using h)
    simp only [Program.keyLits, hT, hz, Rep.len h, hn, and_self, if_true, h1, Option.map_some, h2, List.drop_zero]
  flat h h' := k.flat h h'
  inj h h' := k.inj h h'
  lits h := k.lits h

theorem r_pair {S : Snap} {a b : Int} (ha : I64 a) (hb : I64 b) : Rep.R S [.int .i64 a, .int .i64 b] (a, b) := ⟨rfl, ⟨rfl, ha⟩, ⟨rfl, hb⟩⟩

/-- '==' is asked of this type. -/
class EqTy (P : Program) (T : TypeId) : Prop where
  k : P.keyTypeAt 20 T = true
  g : P.eqGuardType P.depth T = false
  a : (P.underlying T).map (fun d => match d with | .struct _ | .array _ _ => true | _ => false) = some true

variable {l : List Value} {S : Snap} {M : List Chunk}

theorem run_eq {T : TypeId} {d : Nat} (hE : EqTy P T) (hz : P.cellsOf T = Rep.z α) (k : Key P T α d) [DecidableEq α] {S S' : Snap} {cs cs' : List Value} {x y : α} (h : Rep.R S cs x) (h' : Rep.R S' cs' y) (w : World) :
    (Op.equalIn 10000 T (.agg cs.toArray) (.agg cs'.toArray)).run P w = .ok (decide (x = y)) w := by
  have ha := hE.a
  have hform : ∀ q : List Value, q.length = Rep.z α → (Value.agg q.toArray).formed P T = true := by
    intro q hq
    cases hu : P.underlying T with
    | none => simp [hu] at ha
    | some dd => rw [hu] at ha; cases dd <;> simp_all [Value.formed]
  obtain ⟨r, hr, hiff⟩ := run_equalIn_deep (P := P) 9980 20 T hE.k w d d _ _ _ _ (hform cs (Rep.len h)) (hform cs' (Rep.len h')) (by simpa [Value.cells] using k.key d (Nat.le_refl _) h) (by simpa [Value.cells] using k.key d (Nat.le_refl _) h')
  rw [hr]
  congr 1
  rw [k.iff h h'] at hiff
  by_cases e : x = y
  · rw [decide_eq_true e, hiff.2 e]
  · rw [decide_eq_false e]; cases r <;> simp_all

theorem qt_eqlK {T U : TypeId} {d : Nat} {a b : Operand} {agg : Bool} {zero : List Value} {bb : Nat} {cs cs' : List Value} {x y : α} (ha : evF l a = .agg cs.toArray) (hb : evF l b = .agg cs'.toArray) (h : Rep.R S cs x) (h' : Rep.R S cs' y) (hT : Ty P T agg (Rep.z α) zero bb) (hE : EqTy P T) (k : Key P T α d) [DecidableEq α] :
    Qt P l (.binOp .eql T a b U) S M (.bool (decide (x = y))) := fun dst ty pos af w _ => by
  have := run_eq hE (cellsOf_ty hT) k h h' w
  simp [execOp, ha, hb, run_eqGuard_agg _ _ _ _ _ _ _ hE.g, run_eql_struct, this]

theorem qt_neqK {T U : TypeId} {d : Nat} {a b : Operand} {agg : Bool} {zero : List Value} {bb : Nat} {cs cs' : List Value} {x y : α} (ha : evF l a = .agg cs.toArray) (hb : evF l b = .agg cs'.toArray) (h : Rep.R S cs x) (h' : Rep.R S cs' y) (hT : Ty P T agg (Rep.z α) zero bb) (hE : EqTy P T) (k : Key P T α d) [DecidableEq α] :
    Qt P l (.binOp .neq T a b U) S M (.bool (!decide (x = y))) := fun dst ty pos af w _ => by
  have := run_eq hE (cellsOf_ty hT) k h h' w
  simp [execOp, ha, hb, run_eqGuard_agg _ _ _ _ _ _ _ hE.g, run_neq_struct, this]
end
end Go.Sl

/- Regions that draw their order: a head whose operations are quiet in the class of worlds 'St S M', then a tail that
   comes in one order only (every operation of the head goes before it). A sibling of the kit's 'wp_region_still_tail'
   for the class in the place of one world. -/
namespace Go.Sl
set_option linter.unusedSimpArgs false
set_option linter.unusedVariables false
section
variable {P : Program} {ops : Array Oper} {md : Region.Mode} {C : World → Prop}

/-- Whatever of the head is picked, for so many picks; then 'L'. -/
def headQ (P : Program) (md : Region.Mode) (ops : Array Oper) (C : World → Prop) (n : Nat) (L : Array Bool → Act → Prop) : Nat → Array Bool → Act → Prop
  | 0, d, a => L d a
  | f + 1, d, a => Region.ready md ops d ≠ [] ∧ ∀ i ∈ Region.ready md ops d, i < n ∧ qOp P ops C i (headQ P md ops C n L f (d.setIfInBounds i true)) a

theorem headQ_any {n g : Nat} {L : Array Bool → Act → Prop} {Q' : Exit → Act → World → Prop} (hL : ∀ d a w, C w → L d a → wpAny P md ops Q' g d a w) (f : Nat) :
    ∀ (d : Array Bool) (a : Act) (w : World), C w → headQ P md ops C n L f d a → wpAny P md ops Q' (f + g) d a w := by
  induction f with
  | zero => intro d a w hw h; rw [Nat.zero_add]; exact hL _ _ _ hw h
  | succ f ih =>
    intro d a w hw h
    rw [show f + 1 + g = (f + g) + 1 by omega]
    exact ⟨fun e => (h.1 e).elim, fun i hi => wpOp_of_qOp hw (fun a' w' hw' h' => ih _ a' w' hw' h') (h.2 i hi).2⟩

theorem headQ_take {n i : Nat} {o : Oper} {v : Value} {L : Array Bool → Act → Prop} (hi : ops[i]? = some o) (hsel : ∀ (j : Nat) (o : Oper) cs b, ops[j]? = some o → o.op ≠ .select cs b)
    (hs : Region.sinkB md ops n = true) (hc : Region.chainB md ops n = true) (hn : n < ops.size) (hin : i < n)
    (hend : ∀ d a, L d a → ∀ j ∈ Region.ready md ops d, n ≤ j) (f : Nat) :
    ∀ (d : Array Bool) (a : Act), HeadInv md ops n d →
      (∀ j oj, ops[j]? = some oj → j ≠ i → d.getD j true = false → (∀ e ∈ oj.after, Region.binds md e = true → e.on ≠ i) → o.apart ops oj = true) →
      i ∈ Region.ready md ops d → YieldsIn P ops C o v a →
      headQ P md ops C n L f (d.setIfInBounds i true) (a.put o.dst v) → headQ P md ops C n L (f + 1) d a := by
  induction f with
  | zero =>
    intro d a inv _ hr hy H
    refine ⟨fun e => by simp [e] at hr, fun j hj => ?_⟩
    have hjn : j < n := Nat.lt_of_not_le fun h => tail_waits hs hc hn inv _ i rfl hin (mem_ready.1 hr).1 j h hj
    by_cases hji : j = i
    · subst hji; exact ⟨hjn, hy.qOp hi H⟩
    · exact absurd (hend _ _ H j (ready_mono hj hji)) (by omega)
  | succ f ih =>
    intro d a inv hfree hr hy H
    have hun := (mem_ready.1 hr).1
    refine ⟨fun e => by simp [e] at hr, fun j hj => ?_⟩
    have hjn : j < n := Nat.lt_of_not_le fun h => tail_waits hs hc hn inv _ i rfl hin hun j h hj
    refine ⟨hjn, ?_⟩
    by_cases hji : j = i
    · subst hji; exact hy.qOp hi H
    · obtain ⟨hju, oj, hoj, hall⟩ := mem_ready.1 hj
      have hno : ∀ e ∈ oj.after, Region.binds md e = true → e.on ≠ i := fun e he hb q => by
        have := hall e he hb
        rw [q, getD_both hun] at this
        cases this
      refine qOp_mono (fun a' h3 => ih (d.setIfInBounds j true) a' (inv.set hj hjn) (fun k ok hk hki hku hk2 => ?_) (ready_mono hr (Ne.symm hji)) h3.1 ?_)
        (qOp_put hoj (hfree j oj hoj hji hju hno) (fun cs b => hsel i o cs b hi) (fun cs b => hsel j oj cs b hoj) hy (H.2 j (ready_mono hj hji)).2)
      · refine hfree k ok hk hki ?_ hk2
        by_cases hjk : j = k
        · subst hjk; exact hju
        · rwa [getD_set_ne true hjk] at hku
      · rw [Array.setIfInBounds_comm _ _ hji]; exact h3.2

theorem headQ_lex {n g : Nat} {Lq : Act → Prop} (hsel : Region.noSelect ops = true) (hs : Region.sinkB md ops n = true) (hc : Region.chainB md ops n = true) (hn : n < ops.size) :
    ∀ (l : List Oper) (k : Nat) (d : Array Bool) (a : Act), (∀ j, j < l.length → l[j]? = ops[k + j]?) → k + l.length = n → HeadInv md ops n d →
    Region.lexHead md ops g l.length k d = true → wpQuiet P ops C Lq l a →
    headQ P md ops C n (fun d' a' => Region.seqB md ops g n d' = true ∧ Lq a') l.length d a
  | [], k, d, a, _, hk, _, hB, h => by
    obtain rfl : k = n := by simpa using hk
    exact ⟨by simpa [Region.lexHead] using hB, h⟩
  | o :: l, k, d, a, hl, hk, inv, hB, h => by
    have h0 : ops[k]? = some o := by simpa using (hl 0 (by simp)).symm
    simp only [List.length_cons, Region.lexHead, Bool.and_eq_true] at hB
    simp only [List.length_cons] at hk
    have hr : k ∈ Region.ready md ops d := by simpa using hB.1.1
    have hq : qOp P ops C k (wpQuiet P ops C Lq l) a := by unfold qOp; simp only [h0]; exact h
    obtain ⟨v, hy, hK⟩ := yieldsIn_of_qOp h0 hq
    exact headQ_take h0 (Region.noSelect_spec hsel) hs hc hn (by omega) (fun d' a' hL => seqB_ready hL.1) l.length d a inv (Region.free_spec h0 hB.1.2) hr hy
      (headQ_lex hsel hs hc hn l (k + 1) _ _ (fun j hj => by have := hl (j + 1) (by simp; omega); simpa [Nat.add_assoc, Nat.add_comm 1 j] using this) (by omega) (inv.set hr (by omega)) hB.2 hK)
end

section
variable {P : Program} {S : Snap} {M : List Chunk} {w : World} {Q : Exit → Act → World → Prop} {l : List Value} {D : List Deferred}

theorem region_tail {id : Nat} {lo : List Oper} (n : Nat) (hst : St S M w) (hm : P.follows .mixedOrders = true) (hB : Region.lexTailB .any lo.toArray n = true)
    (h : wpQuiet P lo.toArray (St S M) (fun a' => ∀ w', St S M w' → wpList P lo.toArray Q (lo.drop n) a' w') (lo.take n) ⟨l.toArray, D⟩) : (Code.region id lo.toArray true).wp P Q ⟨l.toArray, D⟩ w := by
  simp only [Region.lexTailB, Bool.and_eq_true, decide_eq_true_eq] at hB
  obtain ⟨⟨⟨⟨hsel, hn⟩, hs⟩, hc⟩, hlex⟩ := hB
  have hn' : n < lo.length := by simpa using hn
  have htl : (lo.take n).length = n := by simp; omega
  have inv : HeadInv .any lo.toArray n (Array.replicate lo.toArray.size false) :=
    ⟨by simp, fun j oj _ hl => (by rw [getD_replicate_false] at hl; cases hl), fun t _ ht => getD_in (by simpa using ht) (getD_replicate_false _ _)⟩
  have H := headQ_lex (md := .any) (g := lo.toArray.size - n) hsel hs hc hn (lo.take n) 0 _ _ (fun j hj => by
    have hj' : j < n := by rw [htl] at hj; exact hj
    simp [hj']) (by simpa using htl) inv (by rw [htl]; exact hlex) h
  refine wp_region_any hm ?_
  have K := headQ_any (Q' := Q) (g := lo.toArray.size - n) (fun d a' w' hw' hL => by
    have := wpAny_of_seq (md := .any) (Q' := Q) (lo.drop n) n d a' w' (fun j => by simp [List.getElem?_drop]) (by simpa using hL.1) (hL.2 w' hw')
    simpa using this) _ _ _ _ (by have := hst.drew; exact this) H
  rw [htl, show n + (lo.toArray.size - n) = lo.toArray.size by omega] at K
  exact K
end
end Go.Sl

/- Own slices whose cells are those of a list, cell by cell: read and written in place. -/
namespace Go.Sl
set_option linter.unusedSimpArgs false
set_option linter.unusedVariables false
open Go.RowKit
variable {P : Program}

/-- The cells of a list, laid one after another. -/
def cF {α : Type} (f : α → List Value) (xs : List α) : List Value := (xs.map f).flatten

theorem cF_len {α : Type} {f : α → List Value} {z : Nat} (hz : ∀ x, (f x).length = z) (xs : List α) : (cF f xs).length = xs.length * z := by
  induction xs with
  | nil => simp [cF]
  | cons x xs ih => simp only [cF, List.map_cons, List.flatten_cons, List.length_append, List.length_cons, hz, Nat.succ_mul] at *; omega

theorem cF_cut {α : Type} {f : α → List Value} {z : Nat} (hz : ∀ x, (f x).length = z) : ∀ (xs : List α) (j : Nat) (hj : j < xs.length),
    cF f xs = cF f (xs.take j) ++ f xs[j] ++ cF f (xs.drop (j + 1)) ∧ (cF f (xs.take j)).length = j * z := by
  intro xs j hj
  refine ⟨?_, by rw [cF_len hz]; simp; rw [Nat.min_eq_left (by omega)]⟩
  have : xs = xs.take j ++ xs[j] :: xs.drop (j + 1) := by simp
  have e : cF f xs = cF f (xs.take j ++ xs[j] :: xs.drop (j + 1)) := congrArg _ this
  rw [e, cF, List.map_append, List.flatten_append, List.map_cons, List.flatten_cons, List.append_assoc]
  rfl

theorem cF_get {α : Type} {f : α → List Value} {z : Nat} (hz : ∀ x, (f x).length = z) (xs : List α) (j : Nat) (hj : j < xs.length) : ((cF f xs).drop (j * z)).take z = f xs[j] := by
  obtain ⟨h, hl⟩ := cF_cut hz xs j hj
  rw [h, List.append_assoc, List.drop_append_of_le_length (by omega), List.drop_of_length_le (by omega), List.nil_append, List.take_append_of_le_length (by rw [hz]; exact Nat.le_refl _), List.take_of_length_le (by rw [hz]; exact Nat.le_refl _)]

theorem cF_set {α : Type} {f : α → List Value} {z : Nat} (hz : ∀ x, (f x).length = z) (xs : List α) (j : Nat) (hj : j < xs.length) (y : α) :
    (cF f xs).take (j * z) ++ f y ++ (cF f xs).drop (j * z + z) = cF f (xs.set j y) := by
  obtain ⟨h, hl⟩ := cF_cut hz xs j hj
  obtain ⟨h', hl'⟩ := cF_cut hz (xs.set j y) j (by simpa using hj)
  rw [h', h]
  have e1 : (cF f (xs.take j) ++ f xs[j] ++ cF f (xs.drop (j + 1))).take (j * z) = cF f (xs.take j) := by
    rw [List.append_assoc, ← hl, List.take_left]
  have e2 : (cF f (xs.take j) ++ f xs[j] ++ cF f (xs.drop (j + 1))).drop (j * z + z) = cF f (xs.drop (j + 1)) := by
    have : (cF f (xs.take j) ++ f xs[j]).length = j * z + z := by simp [hl, hz]
    rw [← this, List.drop_left]
  rw [e1, e2, List.getElem_set_self, List.take_set_of_le (Nat.le_refl _), List.drop_set_of_lt (Nat.lt_succ_self _)]

def boolC (b : Bool) : List Value := [.bool b]
def intC (n : Int) : List Value := [.int .i64 n]
def pairC (p : Int × Int) : List Value := [.int .i64 p.1, .int .i64 p.2]

section
variable {ops : Array Oper} {rest : List Oper} {Q : Exit → Act → World → Prop} {l : List Value} {D : List Deferred} {w : World} {d : Tmp} {ty : TypeId} {pos : String} {af : Array Edge} {S : Snap} {M : List Chunk}

theorem qt_ldB {T F : TypeId} {x : Operand} {zero : List Value} {bb : Nat} {v p : Value} {j k n : Nat} {xs : List Bool} (hx : evF l x = p) (hp : PtO v p (j * 1)) (hk : M[k]? = some (.sl v F 1 n (cF boolC xs)))
    (hT : Ty P T false 1 zero bb) (hl : j < xs.length) : Qt P l (.load T x) S M (.bool xs[j]) := by
  have h := qt_load_own (S := S) hx hp hk hT (cF_get (f := boolC) (z := 1) (fun _ => rfl) xs j hl) (by rw [cF_len (f := boolC) (z := 1) (fun _ => rfl)]; omega)
  exact h

theorem qt_ldI {T F : TypeId} {x : Operand} {zero : List Value} {bb : Nat} {v p : Value} {j k n : Nat} {xs : List Int} (hx : evF l x = p) (hp : PtO v p (j * 1)) (hk : M[k]? = some (.sl v F 1 n (cF intC xs)))
    (hT : Ty P T false 1 zero bb) (hl : j < xs.length) : Qt P l (.load T x) S M (.int .i64 xs[j]) := by
  have h := qt_load_own (S := S) hx hp hk hT (cF_get (f := intC) (z := 1) (fun _ => rfl) xs j hl) (by rw [cF_len (f := intC) (z := 1) (fun _ => rfl)]; omega)
  exact h

theorem qt_ld2 {T F : TypeId} {x : Operand} {zero : List Value} {bb : Nat} {v p : Value} {j k n : Nat} {xs : List (Int × Int)} (hx : evF l x = p) (hp : PtO v p (j * 2)) (hk : M[k]? = some (.sl v F 2 n (cF pairC xs)))
    (hT : Ty P T true 2 zero bb) (hl : j < xs.length) : Qt P l (.load T x) S M (.agg #[.int .i64 xs[j].1, .int .i64 xs[j].2]) := by
  have h := qt_load_own (S := S) hx hp hk hT (cF_get (f := pairC) (z := 2) (fun _ => rfl) xs j hl) (by rw [cF_len (f := pairC) (z := 2) (fun _ => rfl)]; omega)
  exact h

/-- A whole datum stored into a box of its own. -/
theorem s_stR {α : Type} [Rep α] {T B : TypeId} {x y : Operand} {zero c cl : List Value} {bb b k : Nat} {q : α} (hst : St S M w) (hx : evF l x = .pointer (some ⟨b, 0, none⟩)) (hk : M[k]? = some (.box b c B))
    (hy : evF l y = vOf (Rep.agg α) cl) (hq : Rep.R S cl q) (hT : Ty P T (Rep.agg α) (Rep.z α) zero bb) (hag : Rep.agg α = true) (hc : c.length = Rep.z α)
    (h : ∀ w', St S (M.set k (.box b cl B)) w' → wpList P ops Q rest ⟨l.toArray, D⟩ w') :
    wpList P ops Q (⟨none, .store T x y, ty, pos, af, none⟩ :: rest) ⟨l.toArray, D⟩ w := by
  have e : (vOf (Rep.agg α) cl).cells.toList = cl := by rw [hag]; rfl
  refine s_store hst hx k hk hT hy e (Rep.len hq) (List.all_eq_true.2 (Rep.one hq)) (by omega) fun w' h' => h w' ?_
  rw [List.take_zero, List.nil_append, List.drop_of_length_le (by omega), List.append_nil] at h'
  exact h'

theorem s_stB {T F : TypeId} {x y : Operand} {zero : List Value} {bb : Nat} {v p : Value} {j k n : Nat} {xs : List Bool} {u : Bool} (hst : St S M w) (hx : evF l x = p) (hp : PtO v p (j * 1)) (hk : M[k]? = some (.sl v F 1 n (cF boolC xs)))
    (hT : Ty P T false 1 zero bb) (hy : evF l y = .bool u) (hl : j < xs.length)
    (h : ∀ w', St S (M.set k (.sl v F 1 n (cF boolC (xs.set j u)))) w' → wpList P ops Q rest ⟨l.toArray, D⟩ w') :
    wpList P ops Q (⟨none, .store T x y, ty, pos, af, none⟩ :: rest) ⟨l.toArray, D⟩ w :=
  s_store_own hst hx hp hk hT hy (cs := boolC u) rfl rfl rfl (by rw [cF_len (f := boolC) (z := 1) (fun _ => rfl)]; omega) fun w' h' => h w' (by rw [cF_set (f := boolC) (z := 1) (fun _ => rfl) xs j hl] at h'; exact h')

theorem s_stI {T F : TypeId} {x y : Operand} {zero : List Value} {bb : Nat} {v p : Value} {j k n : Nat} {xs : List Int} {u : Int} (hst : St S M w) (hx : evF l x = p) (hp : PtO v p (j * 1)) (hk : M[k]? = some (.sl v F 1 n (cF intC xs)))
    (hT : Ty P T false 1 zero bb) (hy : evF l y = .int .i64 u) (hl : j < xs.length)
    (h : ∀ w', St S (M.set k (.sl v F 1 n (cF intC (xs.set j u)))) w' → wpList P ops Q rest ⟨l.toArray, D⟩ w') :
    wpList P ops Q (⟨none, .store T x y, ty, pos, af, none⟩ :: rest) ⟨l.toArray, D⟩ w :=
  s_store_own hst hx hp hk hT hy (cs := intC u) rfl rfl rfl (by rw [cF_len (f := intC) (z := 1) (fun _ => rfl)]; omega) fun w' h' => h w' (by rw [cF_set (f := intC) (z := 1) (fun _ => rfl) xs j hl] at h'; exact h')

theorem s_st2 {T F : TypeId} {x y : Operand} {zero : List Value} {bb : Nat} {v p : Value} {j k n : Nat} {xs : List (Int × Int)} {a b : Int} (hst : St S M w) (hx : evF l x = p) (hp : PtO v p (j * 2)) (hk : M[k]? = some (.sl v F 2 n (cF pairC xs)))
    (hT : Ty P T true 2 zero bb) (hy : evF l y = .agg #[.int .i64 a, .int .i64 b]) (hl : j < xs.length)
    (h : ∀ w', St S (M.set k (.sl v F 2 n (cF pairC (xs.set j (a, b))))) w' → wpList P ops Q rest ⟨l.toArray, D⟩ w') :
    wpList P ops Q (⟨none, .store T x y, ty, pos, af, none⟩ :: rest) ⟨l.toArray, D⟩ w :=
  s_store_own hst hx hp hk hT hy (cs := pairC (a, b)) rfl rfl rfl (by rw [cF_len (f := pairC) (z := 2) (fun _ => rfl)]; omega) fun w' h' => h w' (by rw [cF_set (f := pairC) (z := 2) (fun _ => rfl) xs j hl] at h'; exact h')
end
end Go.Sl

/- Where a box or an own slice stands among the chunks: found by instances. Side conditions that close themselves. General over the program. -/
namespace Go.Sl
set_option linter.unusedSimpArgs false
set_option linter.unusedVariables false
class BoxIn (M : List Chunk) (b : Nat) (k : outParam Nat) (c : outParam (List Value)) (B : outParam TypeId) : Prop where
  h : M[k]? = some (.box b c B)
instance (priority := high) boxIn_here {M : List Chunk} {b : Nat} {c : List Value} {B : TypeId} : BoxIn (.box b c B :: M) b 0 c B := ⟨rfl⟩
instance (priority := low) boxIn_there {M : List Chunk} {d : Chunk} {b k : Nat} {c : List Value} {B : TypeId} [i : BoxIn M b k c B] : BoxIn (d :: M) b (k + 1) c B := ⟨by simpa using i.h⟩
class SlIn (M : List Chunk) (v : Value) (k : outParam Nat) (T : outParam TypeId) (z n : outParam Nat) (c : outParam (List Value)) : Prop where
  h : M[k]? = some (.sl v T z n c)
instance (priority := high) slIn_here {M : List Chunk} {v : Value} {T : TypeId} {z n : Nat} {c : List Value} : SlIn (.sl v T z n c :: M) v 0 T z n c := ⟨rfl⟩
instance (priority := low) slIn_there {M : List Chunk} {d : Chunk} {v : Value} {k : Nat} {T : TypeId} {z n : Nat} {c : List Value} [i : SlIn M v k T z n c] : SlIn (d :: M) v (k + 1) T z n c := ⟨by simpa using i.h⟩

/-- What an operand holds. -/
theorem evX {a b : Value} (h : a = b := by first | (simp only [evF, nth]; rfl) | with_unfolding_all exact rfl) : a = b := h
theorem asX {p : Prop} (h : p := by assumption) : p := h
theorem inX {p : Prop} (h : p := by infer_instance) : p := h
theorem omX {p : Prop} (h : p := by first | omega | (simp only [List.length_set]; omega)) : p := h
theorem lenOk {p : Prop} (h : p := by first | rfl | (simp [Value.cells]; done) | (simpa [Value.cells] using Rep.len (by assumption))) : p := h
theorem oneOk {p : Prop} (h : p := by first | rfl | (simp [Value.cells, Value.oneCell', *]; done) | (exact List.all_eq_true.2 (Rep.one (by assumption)))) : p := h
end Go.Sl

/- Rules for tests whose answer is known. General over the program. -/
namespace Go.Sl
set_option linter.unusedSimpArgs false
set_option linter.unusedVariables false
open Go.RowKit
variable {P : Program} {l : List Value} {S : Snap} {M : List Chunk}
theorem qt_neq_b {T U : TypeId} {x y : Operand} {k : IntKind} {a b : Int} {c : Bool} (hx : evF l x = .int k a) (hy : evF l y = .int k b) (h : (a != b) = c) : Qt P l (.binOp .neq T x y U) S M (.bool c) := by
  subst h; exact qt_neq hx hy
theorem qt_eql_b {T U : TypeId} {x y : Operand} {k : IntKind} {a b : Int} {c : Bool} (hx : evF l x = .int k a) (hy : evF l y = .int k b) (h : (a == b) = c) : Qt P l (.binOp .eql T x y U) S M (.bool c) := by
  subst h; exact qt_eql hx hy
theorem qt_lss_b {T U : TypeId} {x y : Operand} {k : IntKind} {a b : Int} {c : Bool} (hx : evF l x = .int k a) (hy : evF l y = .int k b) (h : decide (a < b) = c) : Qt P l (.binOp .lss T x y U) S M (.bool c) := by
  subst h; exact qt_lss hx hy
theorem qt_gtr_b {T U : TypeId} {x y : Operand} {k : IntKind} {a b : Int} {c : Bool} (hx : evF l x = .int k a) (hy : evF l y = .int k b) (h : decide (a > b) = c) : Qt P l (.binOp .gtr T x y U) S M (.bool c) := by
  subst h; exact qt_gtr hx hy
end Go.Sl

/- More of the rules: what was first proved for one package and serves all. General over the program. -/
namespace Go.Sl
set_option linter.unusedSimpArgs false
set_option linter.unusedVariables false
open Go.RowKit

theorem cells_one {v : Value} (h : v.oneCell' = true) : v.cells.toList = [v] := by
  cases v <;> first | rfl | simp [Value.oneCell'] at h

theorem s_st1 {P : Program} {ops : Array Oper} {rest : List Oper} {Q : Exit → Act → World → Prop} {l : List Value} {D : List Deferred} {w : World} {ty : TypeId} {pos : String} {af : Array Edge} {S : Snap} {M : List Chunk}
    {T B : TypeId} {x y : Operand} {zero c : List Value} {bb b off k : Nat} {v : Value} (hst : St S M w) (hx : evF l x = .pointer (some ⟨b, off, none⟩)) (hk : M[k]? = some (.box b c B))
    (hy : evF l y = v) (h1 : v.oneCell' = true) (hT : Ty P T false 1 zero bb) (hf : off + 1 ≤ c.length)
    (h : ∀ w', St S (M.set k (.box b (c.take off ++ [v] ++ c.drop (off + 1)) B)) w' → wpList P ops Q rest ⟨l.toArray, D⟩ w') :
    wpList P ops Q (⟨none, .store T x y, ty, pos, af, none⟩ :: rest) ⟨l.toArray, D⟩ w :=
  s_store hst hx k hk hT hy (cells_one h1) rfl (by simp [h1]) hf h

theorem sl_one {S : Snap} {M : List Chunk} {w : World} {v : Value} {T : TypeId} {z n : Nat} {c : List Value} (h : St S (.sl v T z n c :: M) w) : v.oneCell' = true := by
  rcases (h.get (k := 0) rfl).2 with ⟨rfl, _⟩ | ⟨g, cap, cur, fz, rfl, _⟩ <;> rfl
theorem sl_form {S : Snap} {M : List Chunk} {w : World} {v : Value} {T : TypeId} {z n : Nat} {c : List Value} (h : St S (.sl v T z n c :: M) w) : ∃ a k c', v = .slice a k c' := by
  rcases (h.get (k := 0) rfl).2 with ⟨rfl, _⟩ | ⟨g, cap, cur, fz, rfl, _⟩ <;> exact ⟨_, _, _, rfl⟩

theorem prod_cells {α β : Type} [Rep α] [Rep β] {S : Snap} {cs : List Value} {x : α} {y : β} (h : Rep.R S cs (x, y)) : ∃ c1 c2, cs = c1 ++ c2 ∧ Rep.R S c1 x ∧ Rep.R S c2 y :=
  ⟨_, _, (List.take_append_drop (Rep.z α) cs).symm, h.2.1, h.2.2⟩

theorem St.weaken {S S' : Snap} {M : List Chunk} {w : World} (h : S.Le S') (g : St S' M w) : St S M w := by
  refine ⟨?_, ?_, ?_, fun b o e => g.has b o (h.blk b o e), g.at_, fun d hd b hb => ?_, g.apart⟩
  · first | exact g.os.trans h.os.symm | exact g.os.trans h.os | (rw [h.os]; exact g.os)
  · first | exact g.tape.trans h.tape.symm | exact g.tape.trans h.tape | (rw [h.tape]; exact g.tape)
  · first | exact g.output.trans h.output.symm | exact g.output.trans h.output | (rw [h.output]; exact g.output)
  · have := g.out d hd b hb
    cases e : S.blk b with
    | none => rfl
    | some o => rw [h.blk b o e] at this; cases this
theorem St.swap {S : Snap} {a b : Chunk} {M : List Chunk} {w : World} (h : St S (a :: b :: M) w) : St S (b :: a :: M) w := h.perm (List.Perm.swap _ _ _)

theorem Rets.eq {P : Program} {f : FuncId} {args : List Value} {w : World} {S : Snap} {M : List Chunk} {b c : Bool} (h : Rets P f args w fun v w' => v = .bool b ∧ St S M w') (e : b = c) :
    Rets P f args w fun v w' => v = .bool c ∧ St S M w' := e ▸ h

theorem cF_snoc {α : Type} (f : α → List Value) (xs : List α) (x : α) : cF f (xs ++ [x]) = cF f xs ++ f x := by simp [cF]
theorem rep_cF {α : Type} (f : α → List Value) (x : α) (n : Nat) : (List.replicate n (f x)).flatten = cF f (List.replicate n x) := by simp [cF]

theorem rl_ints_mk {S : Snap} {xs : List Int} (h : ∀ x ∈ xs, I64 x) : RL S (cF intC xs) xs := by
  refine ⟨cF_len (f := intC) (z := 1) (fun _ => rfl) xs, fun i x hx => ?_⟩
  obtain ⟨hi, rfl⟩ := List.getElem?_eq_some_iff.1 hx
  have := cF_get (f := intC) (z := 1) (fun _ => rfl) xs i hi
  show Rep.R S (((cF intC xs).drop (i * 1)).take 1) _
  rw [this]
  exact ⟨rfl, h _ (List.getElem_mem hi)⟩
theorem lit_ints {S : Snap} {M : List Chunk} {w : World} {v : Value} {n : Nat} {c : List Value} {T : TypeId} (xs : List Int) (h : St S (.sl v T 1 n c :: M) w) (hc : c = cF intC xs) (hx : ∀ x ∈ xs, I64 x) (hn : n = xs.length) : ∃ S', S.Le S' ∧ St S' M w ∧ RSl S' v xs := by
  subst hc
  exact St.freeze (α := Int) h (rl_ints_mk hx) hn

theorem rl_u8 {S : Snap} (xs : List UInt8) : RL S (u8s xs) xs := by
  refine ⟨by simp [u8s, Rep.z], fun i x hx => ?_⟩
  obtain ⟨hi, rfl⟩ := List.getElem?_eq_some_iff.1 hx
  show ((u8s xs).drop (i * 1)).take 1 = [Value.int .u8 ((xs[i]).toNat : Int)]
  rw [Nat.mul_one, List.take_one, List.head?_drop]
  simp [u8s, List.getElem?_eq_getElem hi]
theorem lit_u8 {S : Snap} {M : List Chunk} {w : World} {v : Value} {n : Nat} {c : List Value} {T : TypeId} (xs : List UInt8) (h : St S (.sl v T 1 n c :: M) w) (hc : c = u8s xs) (hn : n = xs.length) : ∃ S', S.Le S' ∧ St S' M w ∧ RSl S' v xs := by
  subst hc
  exact St.freeze (α := UInt8) h (rl_u8 xs) hn
theorem u8s_snoc (xs : List UInt8) (x : UInt8) : u8s (xs ++ [x]) = u8s xs ++ [.int .u8 (x.toNat : Int)] := by simp [u8s]
theorem u8s_append (xs ys : List UInt8) : u8s (xs ++ ys) = u8s xs ++ u8s ys := by simp [u8s]

theorem rsl_i64 {S : Snap} {v : Value} {xs : List Int} (h : RSl S v xs) : ∀ x ∈ xs, I64 x := by
  intro x hx
  obtain ⟨i, hi, rfl⟩ := List.mem_iff_getElem.1 hx
  rcases h with ⟨ad, cap, _, h, _⟩ | ⟨b, o, cap, c, T, fz, _, _, _, _, h⟩
  · subst h; simp at hi
  · exact (h.at_ i hi).2

theorem bool_yes {p : Prop} [Decidable p] (h : p) : Value.bool true = .bool (decide p) := by rw [decide_eq_true h]
theorem bool_no {p : Prop} [Decidable p] (h : ¬ p) : Value.bool false = .bool (decide p) := by rw [decide_eq_false h]
theorem take_succ_eq {α : Type} {a b : List α} {k : Nat} (h : a.take k = b.take k) (ha : k < a.length) (hb : k < b.length) : a.take (k + 1) = b.take (k + 1) ↔ a[k] = b[k] := by
  constructor
  · intro e
    have := congrArg (·[k]?) e
    simpa [List.getElem?_take, ha, hb] using this
  · intro e
    apply List.ext_getElem?
    intro j
    have hj := congrArg (·[j]?) h
    simp only [List.getElem?_take] at hj ⊢
    by_cases h1 : j < k
    · simpa [h1, Nat.lt_succ_of_lt h1] using hj
    · by_cases h2 : j = k
      · subst h2; simp [ha, hb, e]
      · simp [show ¬ j < k + 1 from by omega]
end Go.Sl

/- Elements of array values and of strings. General over the program. -/
namespace Go.Sl
set_option linter.unusedSimpArgs false
set_option linter.unusedVariables false
open Go.RowKit
variable {P : Program} {S : Snap} {M : List Chunk} {l : List Value} {ops : Array Oper} {rest : List Oper} {Q : Exit → Act → World → Prop} {D : List Deferred} {w : World} {ty : TypeId} {pos : String} {af : Array Edge} {d : Tmp} {dd : Option Tmp}

theorem run_part {E : TypeId} {agg : Bool} {z : Nat} {zero : List Value} {bb : Nat} (hE : Ty P E agg z zero bb) (w : World) {cs es : List Value} {o : Nat} (hc : (cs.drop o).take z = es) (hl : es.length = z) :
    (part E cs.toArray o).run P w = .ok (vOf agg es) w := by
  cases agg with
  | true =>
    simp only [part, Sem.run_bind, hE.run_isAgg, Result.andThen_ok, if_true, hE.run_sizeOf, Sem.run_pure, vOf_true]
    congr 2
    rw [List.extract_toArray, List.extract_eq_take_drop, ← hc]
    congr 2
    omega
  | false =>
    have hz := hE.size_pos rfl
    subst hz
    obtain ⟨v, rfl⟩ := List.length_eq_one_iff.1 hl
    have h0 : cs[o]? = some v := by
      have := congrArg (·[0]?) hc
      simpa [List.getElem?_take, List.getElem?_drop] using this
    simp only [part, Sem.run_bind, hE.run_isAgg, Result.andThen_ok, if_false, Bool.false_eq_true, vOf_false]
    simp [h0]

/-- 'x[i]' of an array that is a value. -/
theorem qt_indexV {T E : TypeId} {n : Nat} {x i : Operand} {agg : Bool} {z : Nat} {zero : List Value} {bb : Nat} {cs es : List Value} {k : IntKind} {j : Int} (hx : evF l x = .agg cs.toArray) (hi : evF l i = .int k j)
    (hT : ArrT P T n E) (hE : Ty P E agg z zero bb) (h0 : 0 ≤ j) (hn : j.toNat < n) (hc : (cs.drop (j.toNat * z)).take z = es) (hl : es.length = z) : Qt P l (.index T x i) S M (vOf agg es) := fun dst ty pos af w _ => by
  have hlt : j < n := by omega
  have hp := run_part hE w hc hl
  simp [execOp, hx, hi, Instr.index, asIntOf, run_underlying hT.u, h0, hlt, hE.run_sizeOf, hp]

/-- 's[i]' of a string. -/
theorem qt_indexS {T : TypeId} {x i : Operand} {b : List UInt8} {k : IntKind} {j : Int} (hx : evF l x = .string ⟨b.toArray⟩) (hi : evF l i = .int k j) (hT : P.underlying T = some .string)
    (h0 : 0 ≤ j) (hn : j.toNat < b.length) : Qt P l (.index T x i) S M (.int .u8 (b[j.toNat].toNat : Nat)) := fun dst ty pos af w _ => by
  have e : (⟨b.toArray⟩ : ByteArray)[j.toNat]? = some b[j.toNat] := by
    have : (⟨b.toArray⟩ : ByteArray).size = b.length := rfl
    rw [getElem?_pos _ _ (by rw [this]; exact hn)]
    rfl
  simp [execOp, hx, hi, Instr.index, asIntOf, run_underlying hT, h0, e]

/-- A call of a function value in a region that draws its order. -/
theorem q_callv {K : Act → Prop} {f : FuncId} {x : Operand} {xs : List Operand} {ats : Array TypeId} {args args' : List Value} {fi ca : List Value} {v : Value} (c : ∀ w, St S M w → Rets P f args' w fun v' w' => v' = v ∧ St S M w')
    (hx : evF l x = .func (.func f) fi.toArray ca.toArray) (hb : Body P f) (ha : xs.map (evF l) = args) (hargs : fi ++ args ++ ca = args')
    (h : wpQuiet P ops (St S M) K rest ⟨(putD l dd v).toArray, D⟩) :
    wpQuiet P ops (St S M) K (⟨dd, .call { callee := .value x, args := xs.toArray, argTypes := ats }, ty, pos, af, none⟩ :: rest) ⟨l.toArray, D⟩ := by
  refine q_step rfl (fun w hw => ?_) h
  subst ha; subst hargs
  have hr : (execOp (evF l) ⟨dd, .call { callee := .value x, args := xs.toArray, argTypes := ats }, ty, pos, af, none⟩).run P w = .ok (.enter f (fi ++ xs.map (evF l) ++ ca).toArray) w := by
    have := hb.enter (w := w) (fi ++ xs.map (evF l) ++ ca).toArray
    simp only [execOp, resolve, hx, Deferred.ofValue, Sem.run_bind, Sem.run_pure, Result.andThen_ok, invoke]
    simpa using this
  rw [hr]
  exact ⟨rfl, Calls.mono (c w hw) fun e w' ⟨v', he, hv, hs⟩ => ⟨by rw [he, hv], hs⟩⟩

/-- What is owned at least. -/
class Suf (M M' : List Chunk) : Prop where
  h : ∃ N, M' = N ++ M
instance (priority := high) suf_here {M : List Chunk} : Suf M M := ⟨[], rfl⟩
instance (priority := low) suf_there {M M' : List Chunk} {c : Chunk} [i : Suf M M'] : Suf M (c :: M') := ⟨let ⟨N, h⟩ := i.h; ⟨c :: N, by rw [h]; rfl⟩⟩
theorem Suf.box {M M' : List Chunk} {b : Nat} {c : List Value} {T : TypeId} (i : Suf (.box b c T :: M) M') : ∃ k, BoxIn M' b k c T := by
  obtain ⟨N, rfl⟩ := i.h
  exact ⟨N.length, ⟨by simp⟩⟩

theorem Suf.boxIn {M M' : List Chunk} {b k : Nat} {c : List Value} {T : TypeId} (i : Suf M M') (h : BoxIn M b k c T) : ∃ k', BoxIn M' b k' c T := by
  obtain ⟨N, rfl⟩ := i.h
  exact ⟨N.length + k, ⟨by rw [List.getElem?_append_right (by omega), Nat.add_sub_cancel_left]; exact h.h⟩⟩

theorem qt_geq_b {T U : TypeId} {x y : Operand} {k : IntKind} {a b : Int} {c : Bool} (hx : evF l x = .int k a) (hy : evF l y = .int k b) (h : decide (a ≥ b) = c) : Qt P l (.binOp .geq T x y U) S M (.bool c) := by
  subst h; exact qt_geq hx hy
theorem qt_leq_b {T U : TypeId} {x y : Operand} {k : IntKind} {a b : Int} {c : Bool} (hx : evF l x = .int k a) (hy : evF l y = .int k b) (h : decide (a ≤ b) = c) : Qt P l (.binOp .leq T x y U) S M (.bool c) := by
  subst h; exact qt_leq hx hy
theorem deX {p : Prop} (h : p := by first | assumption | decide) : p := h

section
variable {α : Type} [Rep α]
theorem qt_eqlK_b {T U : TypeId} {d : Nat} {a b : Operand} {agg : Bool} {zero : List Value} {bb : Nat} {cs cs' : List Value} {x y : α} {c : Bool} (ha : evF l a = .agg cs.toArray) (hb : evF l b = .agg cs'.toArray) (h : Rep.R S cs x) (h' : Rep.R S cs' y) (hT : Ty P T agg (Rep.z α) zero bb) (hE : EqTy P T) (k : Key P T α d) [DecidableEq α]
    (e : decide (x = y) = c) : Qt P l (.binOp .eql T a b U) S M (.bool c) := by subst e; exact qt_eqlK ha hb h h' hT hE k
theorem qt_neqK_b {T U : TypeId} {d : Nat} {a b : Operand} {agg : Bool} {zero : List Value} {bb : Nat} {cs cs' : List Value} {x y : α} {c : Bool} (ha : evF l a = .agg cs.toArray) (hb : evF l b = .agg cs'.toArray) (h : Rep.R S cs x) (h' : Rep.R S cs' y) (hT : Ty P T agg (Rep.z α) zero bb) (hE : EqTy P T) (k : Key P T α d) [DecidableEq α]
    (e : decide (x = y) = c) : Qt P l (.binOp .neq T a b U) S M (.bool (!c)) := by subst e; exact qt_neqK ha hb h h' hT hE k
end
theorem kq_bin {K : Act → Prop} {b : BinOp} {x y : Operand} {T U : TypeId} {g : Option (Nat × Bool)} {a : Act} (h : wpQuiet P ops (St S M) K (⟨dd, .binOp b T x y U, ty, pos, af, g⟩ :: rest) a) : wpQuiet P ops (St S M) K (⟨dd, .binOp b T x y U, ty, pos, af, g⟩ :: rest) a := h
theorem k_indexV {x y : Operand} {T : TypeId} {g : Option (Nat × Bool)} {a : Act} (h : wpList P ops Q (⟨dd, .index T x y, ty, pos, af, g⟩ :: rest) a w) : wpList P ops Q (⟨dd, .index T x y, ty, pos, af, g⟩ :: rest) a w := h
end Go.Sl

/- Struct literals. General over the program. -/
namespace Go.Sl
set_option linter.unusedSimpArgs false
set_option linter.unusedVariables false
open Go.RowKit
variable {P : Program} {S : Snap} {M : List Chunk} {l : List Value}

/-- A struct type: where its fields lie, and how many cells each has. -/
class StructT (P : Program) (T : TypeId) (places : outParam (List (Nat × Nat))) : Prop where
  ok : (match P.underlying T with | some (.struct fs) => fs.toList.mapM fun f => (P.info? f.type).map fun i => (f.offset, i.size) | _ => none) = some places

theorem run_places (w : World) : ∀ (fs : List Field) (places : List (Nat × Nat)), (fs.mapM fun f => (P.info? f.type).map fun i => (f.offset, i.size)) = some places →
    (fs.mapM fun f => do pure (f.offset, ← sizeOf f.type) : Sem (List (Nat × Nat))).run P w = .ok places w
  | [], places, h => by
    obtain rfl : [] = places := by simpa using h
    rfl
  | f :: fs, places, h => by
    rw [List.mapM_cons] at h ⊢
    cases hi : P.info? f.type with
    | none => simp [hi] at h
    | some i =>
      simp only [hi, Option.map_some, Option.pure_def, Option.bind_eq_bind, Option.bind_some] at h
      cases hr : (fs.mapM fun f => (P.info? f.type).map fun i => (f.offset, i.size)) with
      | none => simp [hr] at h
      | some ps =>
        simp only [hr, Option.bind_some, Option.some.injEq] at h
        have := run_places w fs ps hr
        subst h
        have hsz : (sizeOf f.type).run P w = .ok i.size w := by simp [sizeOf, typeInfo, hi]
        simp only [Sem.run_bind, hsz, Result.andThen_ok, Sem.run_pure, this]

theorem qt_buildS {T : TypeId} {ps : List (Nat × Operand)} {places : List (Nat × Nat)} {z : Nat} {zero : List Value} {bb : Nat} {cs : List Value} (hT : StructT P T places) (hZ : Ty P T true z zero bb)
    (hf : Instr.fill (fun i => places.toArray[i]?) zero.toArray (ps.map fun q => (q.1, evF l q.2)) = some cs.toArray) : Qt P l (.build T ps.toArray) S M (.agg cs.toArray) := fun dst ty pos af w _ => by
  have h := hT.ok
  cases hu : P.underlying T with
  | none => simp [hu] at h
  | some d =>
    rw [hu] at h
    cases d with
    | struct fs =>
      have hp := run_places w fs.toList places h
      have hcz : (vOf true zero).cells = zero.toArray := rfl
      simp only [execOp, Instr.build, Sem.run_bind, hZ.run_zero, Result.andThen_ok, run_underlying hu]
      rw [Array.mapM_eq_mapM_toList]
      have e : (Array.map (fun x : Nat × Operand => (x.fst, evF l x.snd)) ps.toArray).toList = ps.map fun q => (q.1, evF l q.2) := by simp
      rw [map_eq_pure_bind, Sem.run_bind, hp]
      simp only [Result.andThen_ok, Sem.run_pure, hcz, e, hf]
    | _ => simp at h
theorem qt_eql_self {T U : TypeId} {x y : Operand} {k : IntKind} {a : Int} (hx : evF l x = .int k a) (hy : evF l y = .int k a) : Qt P l (.binOp .eql T x y U) S M (.bool true) := by
  have := qt_eql (P := P) (T := T) (U := U) (S := S) (M := M) hx hy
  rwa [beq_self_eq_true] at this
theorem qt_neq_self {T U : TypeId} {x y : Operand} {k : IntKind} {a : Int} (hx : evF l x = .int k a) (hy : evF l y = .int k a) : Qt P l (.binOp .neq T x y U) S M (.bool false) := by
  have := qt_neq (P := P) (T := T) (U := U) (S := S) (M := M) hx hy
  rwa [bne_self_eq_false] at this
/-- A type of truth values. -/
class BoolT (P : Program) (T : TypeId) : Prop where
  u : P.underlying T = some .bool
theorem run_beq {T : TypeId} (hT : BoolT P T) (w : World) (a b : Bool) : (Op.equal T (.bool a) (.bool b)).run P w = .ok (a == b) w := run_equalIn_bool w 9999 T a b hT.u
theorem qt_eql_bool {T U : TypeId} {x y : Operand} {a b : Bool} (hx : evF l x = .bool a) (hy : evF l y = .bool b) (hT : BoolT P T) : Qt P l (.binOp .eql T x y U) S M (.bool (a == b)) := fun dst ty pos af w _ => by
  have h := run_beq hT w a b
  simp [execOp, hx, hy, eqGuard_at_bool, binOp, h]
theorem qt_neq_bool {T U : TypeId} {x y : Operand} {a b : Bool} (hx : evF l x = .bool a) (hy : evF l y = .bool b) (hT : BoolT P T) : Qt P l (.binOp .neq T x y U) S M (.bool (a != b)) := fun dst ty pos af w _ => by
  have h := run_beq hT w a b
  simp [execOp, hx, hy, eqGuard_at_bool, binOp, h, bne]
theorem qt_eql_bself {T U : TypeId} {x y : Operand} {a : Bool} (hx : evF l x = .bool a) (hy : evF l y = .bool a) (hT : BoolT P T) : Qt P l (.binOp .eql T x y U) S M (.bool true) := by
  have := qt_eql_bool (P := P) (T := T) (U := U) (S := S) (M := M) hx hy hT
  rwa [beq_self_eq_true] at this
end Go.Sl
