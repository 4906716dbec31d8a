/- Rules of a small separation logic over the model's worlds. General over the program. -/
import Derived.WalkKit
import Derived.WalkSpells
import Derived.WalkLawsBesides
import Derived.Laws.CopyRow
import Derived.Deep.MidRow
import Derived.Deep.AppendSrc
import Derived.Deep.Slices
import Derived.Lib.ConvBytes
import Derived.Laws.MakeOwn
import Derived.Laws.BytesArg
import Derived.OpenShut
namespace Go.Sl
set_option linter.unusedSimpArgs false
set_option linter.unusedVariables false
open Go.RowKit

/-- What never changes. -/
structure Snap where
  os : Os
  tape : Nat → Question → Nat
  output : Array (Nat × ByteArray)
  blk : Nat → Option Obj

structure Snap.Le (S S' : Snap) : Prop where
  os : S'.os = S.os
  tape : S'.tape = S.tape
  output : S'.output = S.output
  blk : ∀ b o, S.blk b = some o → S'.blk b = some o

theorem Snap.Le.refl (S : Snap) : S.Le S := ⟨rfl, rfl, rfl, fun _ _ h => h⟩
theorem Snap.Le.trans {A B C : Snap} (h : A.Le B) (k : B.Le C) : A.Le C :=
  ⟨k.os.trans h.os, k.tape.trans h.tape, k.output.trans h.output, fun b o e => k.blk b o (h.blk b o e)⟩

/-- The slice v owns a row whose visible cells are c; no cell of it is frozen. -/
def OwnS (w : World) (T : TypeId) (z : Nat) (v : Value) (n : Nat) (c : List Value) : Prop :=
  c.length = n * z ∧ ((v = .slice none 0 0 ∧ n = 0) ∨ ∃ g cap cur fz, v = .slice (some ⟨g, 0, none⟩) n cap ∧ w.heap[g]? = some (.cells cur T fz) ∧
    (∀ j, j < cur.size → ¬ (fz.1 ≤ j ∧ j < fz.2)) ∧ n ≤ cap ∧ cap ≤ maxLen ∧ cap * z ≤ cur.size ∧ cur.toList.take (n * z) = c)

/-- What is owned: a whole block of cells; or a slice that may grow. -/
inductive Chunk where
  | box (b : Nat) (c : List Value) (T : TypeId)
  | sl (v : Value) (T : TypeId) (z n : Nat) (c : List Value)
  | obj (b : Nat) (o : Obj)

def Chunk.own : Chunk → Option Nat
  | .box b _ _ => some b
  | .sl v _ _ _ _ => v.ownBlock
  | .obj b _ => some b

def Chunk.at (w : World) : Chunk → Prop
  | .box b c T => w.heap[b]? = some (.cells c.toArray T (0, 0))
  | .sl v T z n c => OwnS w T z v n c
  | .obj b o => w.heap[b]? = some o

def Chunk.apart (c d : Chunk) : Prop := ∀ b, c.own = some b → d.own = some b → False

structure St (S : Snap) (M : List Chunk) (w : World) : Prop where
  os : w.os = S.os
  tape : w.tape = S.tape
  output : w.output = S.output
  has : ∀ b o, S.blk b = some o → w.heap[b]? = some o
  at_ : ∀ c ∈ M, c.at w
  out : ∀ c ∈ M, ∀ b, c.own = some b → S.blk b = none
  apart : M.Pairwise Chunk.apart

theorem Chunk.lt {c : Chunk} {w : World} (h : c.at w) : ∀ b, c.own = some b → b < w.heap.size := by
  intro b hb
  cases c with
  | box b' cs T =>
    obtain rfl : b' = b := by simpa [Chunk.own] using hb
    exact (Array.getElem?_eq_some_iff.1 h).1
  | sl v T z n cs =>
    rcases h.2 with ⟨rfl, _⟩ | ⟨g, cap, cur, fz, rfl, hg, _⟩
    · simp [Chunk.own, Value.ownBlock] at hb
    · obtain rfl : g = b := by simpa [Chunk.own, Value.ownBlock] using hb
      exact (Array.getElem?_eq_some_iff.1 hg).1
  | obj b' o =>
    obtain rfl : b' = b := by simpa [Chunk.own] using hb
    exact (Array.getElem?_eq_some_iff.1 h).1

theorem Chunk.at_of_block {c : Chunk} {w w' : World} (h : c.at w) (hb : ∀ b, c.own = some b → w'.heap[b]? = w.heap[b]?) : c.at w' := by
  cases c with
  | box b cs T => exact (hb b rfl).trans h
  | sl v T z n cs =>
    obtain ⟨h1, h2⟩ := h
    refine ⟨h1, ?_⟩
    rcases h2 with h2 | ⟨g, cap, cur, fz, rfl, hh, r⟩
    · exact Or.inl h2
    · exact Or.inr ⟨g, cap, cur, fz, rfl, (hb g (by simp [Chunk.own, Value.ownBlock])).trans hh, r⟩
  | obj b o => exact (hb b rfl).trans h

theorem St.drop {S : Snap} {c : Chunk} {M : List Chunk} {w : World} (h : St S (c :: M) w) : St S M w :=
  ⟨h.os, h.tape, h.output, h.has, fun d hd => h.at_ d (.tail _ hd), fun d hd => h.out d (.tail _ hd), (List.pairwise_cons.1 h.apart).2⟩

theorem Chunk.apart_symm {c d : Chunk} (h : c.apart d) : d.apart c := fun b h1 h2 => h b h2 h1

theorem St.perm {S : Snap} {M M' : List Chunk} {w : World} (p : M.Perm M') (h : St S M w) : St S M' w :=
  ⟨h.os, h.tape, h.output, h.has, fun d hd => h.at_ d (p.mem_iff.2 hd), fun d hd => h.out d (p.mem_iff.2 hd),
   (p.pairwise_iff (fun {_ _} => Chunk.apart_symm)).1 h.apart⟩

/-- A new block. -/
theorem St.alloc {S : Snap} {M : List Chunk} {w : World} (h : St S M w) (c : List Value) (T : TypeId) :
    St S (.box w.heap.size c T :: M) (w.alloc (.cells c.toArray T)) := by
  have old : ∀ b, b < w.heap.size → (w.alloc (.cells c.toArray T)).heap[b]? = w.heap[b]? := fun b hb => Below.heap_alloc _ _ _ hb
  refine ⟨h.os, h.tape, h.output, fun b o e => ?_, fun d hd => ?_, fun d hd b hb => ?_, List.pairwise_cons.2 ⟨fun d hd b hb hd' => ?_, h.apart⟩⟩
  · have := h.has b o e
    rw [old b (Array.getElem?_eq_some_iff.1 this).1]; exact this
  · rcases List.mem_cons.1 hd with rfl | hd
    · exact heap_alloc_new w _
    · exact Chunk.at_of_block (h.at_ d hd) fun b hb => old b (Chunk.lt (h.at_ d hd) b hb)
  · rcases List.mem_cons.1 hd with rfl | hd
    · obtain rfl : w.heap.size = b := by simpa [Chunk.own] using hb
      cases e : S.blk w.heap.size with
      | none => rfl
      | some o => have := (Array.getElem?_eq_some_iff.1 (h.has _ _ e)).1; omega
    · exact h.out d hd b hb
  · obtain rfl : w.heap.size = b := by simpa [Chunk.own] using hb
    have := Chunk.lt (h.at_ d hd) _ hd'; omega

/-- A draw. -/
theorem St.drew {S : Snap} {M : List Chunk} {w : World} (h : St S M w) : St S M w.drew :=
  ⟨h.os, h.tape, h.output, h.has, fun d hd => Chunk.at_of_block (h.at_ d hd) fun _ _ => rfl, h.out, h.apart⟩

/-- What an owned block's world turns into, the rest as it was. -/
theorem St.set {S : Snap} {M : List Chunk} {w w' : World} {c d : Chunk} (h : St S (c :: M) w) (hos : w'.os = w.os) (ht : w'.tape = w.tape) (ho : w'.output = w.output)
    (hd : d.at w') (hown : ∀ b, d.own = some b → c.own = some b ∨ w.heap.size ≤ b) (hb : ∀ b, b < w.heap.size → c.own ≠ some b → w'.heap[b]? = w.heap[b]?) : St S (d :: M) w' := by
  have hc := h.at_ c (.head _)
  have hap := List.pairwise_cons.1 h.apart
  refine ⟨hos.trans h.os, ht.trans h.tape, ho.trans h.output, fun b o e => ?_, fun x hx => ?_, fun x hx b hxb => ?_, List.pairwise_cons.2 ⟨fun x hx b h1 h2 => ?_, hap.2⟩⟩
  · have := h.has b o e
    rw [hb b (Array.getElem?_eq_some_iff.1 this).1 (fun e' => by rw [h.out c (.head _) b e'] at e; cases e)]; exact this
  · rcases List.mem_cons.1 hx with rfl | hx
    · exact hd
    · have hax := h.at_ x (.tail _ hx)
      exact Chunk.at_of_block hax fun b hxb => hb b (Chunk.lt hax b hxb) (fun e' => hap.1 x hx b e' hxb)
  · rcases List.mem_cons.1 hx with rfl | hx
    · rcases hown b hxb with e | e
      · exact h.out c (.head _) b e
      · cases e' : S.blk b with
        | none => rfl
        | some o => have := (Array.getElem?_eq_some_iff.1 (h.has _ _ e')).1; omega
    · exact h.out x (.tail _ hx) b hxb
  · rcases hown b h1 with e | e
    · exact hap.1 x hx b e h2
    · have := Chunk.lt (h.at_ x (.tail _ hx)) b h2; omega

theorem St.lt {S : Snap} {M : List Chunk} {w : World} (h : St S M w) {b : Nat} {o : Obj} (e : S.blk b = some o) : b < w.heap.size := (Array.getElem?_eq_some_iff.1 (h.has b o e)).1

/-- The snapshot with one block more. -/
def Snap.with (S : Snap) (b : Nat) (o : Obj) : Snap := { S with blk := fun k => if k = b then some o else S.blk k }

theorem Snap.le_with {S : Snap} {b : Nat} {o : Obj} (h : S.blk b = none) : S.Le (S.with b o) :=
  ⟨rfl, rfl, rfl, fun k x e => by
    simp only [Snap.with]
    split
    · subst_vars; rw [h] at e; cases e
    · exact e⟩

theorem St.freeze_box {S : Snap} {M : List Chunk} {w : World} {b : Nat} {c : List Value} {T : TypeId} (h : St S (.box b c T :: M) w) :
    S.Le (S.with b (.cells c.toArray T (0, 0))) ∧ St (S.with b (.cells c.toArray T (0, 0))) M w := by
  have hn := h.out (.box b c T) (.head _) b rfl
  have hap := List.pairwise_cons.1 h.apart
  refine ⟨Snap.le_with hn, h.os, h.tape, h.output, fun k o e => ?_, fun d hd => h.at_ d (.tail _ hd), fun d hd k hk => ?_, hap.2⟩
  · simp only [Snap.with] at e
    split at e
    · rename_i hkb; rw [hkb]; rw [← Option.some.inj e]; exact h.at_ (.box b c T) (.head _)
    · exact h.has k o e
  · simp only [Snap.with]
    split
    · rename_i hkb; rw [hkb] at hk; exact (hap.1 d hd _ rfl hk).elim
    · exact h.out d (.tail _ hd) k hk

end Go.Sl

namespace Go.Sl
open Go.RowKit
variable {P : Program}

/-! ### Types -/
/-- A value out of its cells. -/
def vOf (agg : Bool) (cs : List Value) : Value := if agg then .agg cs.toArray else cs.headD undef
@[simp] theorem vOf_true (cs : List Value) : vOf true cs = .agg cs.toArray := rfl
@[simp] theorem vOf_false (v : Value) (r : List Value) : vOf false (v :: r) = v := rfl

/-- What the rules ask of a type: an aggregate or not, its cells, its zero. -/
class Ty (P : Program) (T : TypeId) (agg : outParam Bool) (z : outParam Nat) (zero : outParam (List Value)) (by_ : outParam Nat) : Prop where
  agg_ : (P.underlying T).map (fun d => match d with | .struct _ | .array _ _ => true | _ => false) = some agg
  info_ : (P.info? T).map (fun i => (i.zero, i.size, i.bytes)) = some (some (vOf agg zero), z, by_)
  len_ : zero.length = z
  one_ : zero.all (·.oneCell') = true
  cells_ : (vOf agg zero).cells.toList = zero
  z1_ : agg = false → z = 1

section
variable {T : TypeId} {agg : Bool} {z : Nat} {zero : List Value} {bb : Nat}

theorem Ty.run_isAgg (h : Ty P T agg z zero bb) (w : World) : (isAgg T).run P w = .ok agg w := by
  have := h.agg_
  cases hu : P.underlying T with
  | none => simp [hu] at this
  | some d =>
    rw [hu] at this
    simp only [Option.map_some, Option.some.injEq] at this
    unfold isAgg
    rw [Sem.run_bind, run_underlying hu w]
    cases d <;> simp_all

theorem Ty.run_sizeOf (h : Ty P T agg z zero bb) (w : World) : (sizeOf T).run P w = .ok z w := by
  have := h.info_
  cases hu : P.info? T with
  | none => simp [hu] at this
  | some i => simp [hu] at this; simp [sizeOf, typeInfo, hu, this]

theorem Ty.run_bytes (h : Ty P T agg z zero bb) : ∃ i, P.info? T = some i ∧ i.zero = some (vOf agg zero) ∧ i.size = z ∧ i.bytes = bb := by
  have := h.info_
  cases hu : P.info? T with
  | none => simp [hu] at this
  | some i => simp [hu] at this; exact ⟨i, rfl, this⟩

theorem Ty.run_zero (h : Ty P T agg z zero bb) (w : World) : (zeroValue T).run P w = .ok (vOf agg zero) w := by
  obtain ⟨i, h1, h2, _⟩ := h.run_bytes
  simp [zeroValue, typeInfo, h1, h2]

theorem Ty.size_pos (h : Ty P T agg z zero bb) : agg = false → z = 1 := h.z1_

/-- The cells cs lie in block b from o on. -/
theorem run_load (h : Ty P T agg z zero bb) (w : World) (b o : Nat) (cs : List Value) (hc : w.rangeAt b o cs) (hl : cs.length = z) :
    (Instr.loadAt T (.pointer (some ⟨b, o, none⟩))).run P w = .ok (vOf agg cs) w := by
  have hcl : (loadCells ⟨b, o, none⟩ cs.length).run P w = .ok cs.toArray w :=
    run_loadCells_list (P := P) w ⟨b, o, none⟩ cs (fun j v hv => by rw [Addr.add_mid]; exact hc j v hv)
  cases agg with
  | true =>
    simp only [Instr.loadAt, Instr.sureAddr, Sem.run_bind, Sem.run_pure, Result.andThen_ok, loadVar, h.run_isAgg, h.run_sizeOf, if_true, ← hl, hcl, vOf_true]
  | false =>
    have hz := h.size_pos rfl
    obtain ⟨v, rfl⟩ : ∃ v, cs = [v] := List.length_eq_one_iff.1 (by omega)
    have h0 := hc 0 v rfl
    have : (Go.load ⟨b, o, none⟩).run P w = .ok v w := by
      simp only [Nat.add_zero] at h0
      simp [Go.load, Sem.run, h0]
    simp only [Instr.loadAt, Instr.sureAddr, Sem.run_bind, Sem.run_pure, Result.andThen_ok, loadVar, h.run_isAgg, if_false, this, vOf_false, Bool.false_eq_true]
end

/-! ### Frames -/
def nth : List Value → Nat → Value
  | [], _ => undef
  | v :: _, 0 => v
  | _ :: r, n + 1 => nth r n

theorem nth_eq (l : List Value) (n : Nat) : nth l n = l.toArray.getD n undef := by
  induction l generalizing n with
  | nil => simp [nth]
  | cons v r ih =>
    cases n with
    | zero => simp [nth]
    | succ n => rw [nth, ih]; simp

def evF (l : List Value) : Operand → Value
  | .tmp t => nth l t
  | .const v => v
  | .global g => .pointer (some ⟨g, 0, none⟩)
  | .func f => .func (.func f) #[] #[]

theorem evF_eq (l : List Value) (D : List Deferred) : (⟨l.toArray, D⟩ : Act).eval = evF l := by
  funext x
  cases x <;> simp [Act.eval, evF, nth_eq]

section
variable {ops : Array Oper} {rest : List Oper} {Q : Exit → Act → World → Prop} {l : List Value} {D : List Deferred} {w : World} {d : Tmp} {ty : TypeId} {pos : String} {af : Array Edge}

theorem step_value {op : Op} {v : Value} {w' : World} (hr : (execOp (evF l) ⟨some d, op, ty, pos, af, none⟩).run P w = .ok (.value v) w')
    (h : wpList P ops Q rest ⟨(l.set d v).toArray, D⟩ w') : wpList P ops Q (⟨some d, op, ty, pos, af, none⟩ :: rest) ⟨l.toArray, D⟩ w := by
  refine wpList_plain rfl fun K hK => ?_
  unfold Oper.wp
  rw [evF_eq, hr]
  refine hK _ _ ?_
  simpa [Act.put] using h

theorem step_skip {op : Op} {w' : World} (hr : (execOp (evF l) ⟨none, op, ty, pos, af, none⟩).run P w = .ok .skip w')
    (h : wpList P ops Q rest ⟨l.toArray, D⟩ w') : wpList P ops Q (⟨none, op, ty, pos, af, none⟩ :: rest) ⟨l.toArray, D⟩ w := by
  refine wpList_plain rfl fun K hK => ?_
  unfold Oper.wp
  rw [evF_eq, hr]
  exact hK _ _ h

variable {S : Snap} {M : List Chunk}

/-- 'box': a new variable that holds x. -/
theorem s_box {T : TypeId} {x : Operand} {v : Value} {cs : List Value} (hst : St S M w) (hx : evF l x = v) (hc : v.cells.toList = cs)
    (h : ∀ b w', St S (.box b cs T :: M) w' → wpList P ops Q rest ⟨(l.set d (.pointer (some ⟨b, 0, none⟩))).toArray, D⟩ w') :
    wpList P ops Q (⟨some d, .box T x, ty, pos, af, none⟩ :: rest) ⟨l.toArray, D⟩ w := by
  subst hc
  refine step_value (v := .pointer (some ⟨w.heap.size, 0, none⟩)) (w' := w.alloc (.cells v.cells T)) ?_ (h _ _ (hst.alloc v.cells.toList T))
  simp only [execOp, Instr.box, newVar, newRow, newObj, hx]
  rfl

/-- 'alloc': a new variable, zero. -/
theorem s_alloc {T : TypeId} {agg : Bool} {z : Nat} {zero : List Value} {bb : Nat} (hst : St S M w) (hT : Ty P T agg z zero bb)
    (h : ∀ b w', St S (.box b zero T :: M) w' → wpList P ops Q rest ⟨(l.set d (.pointer (some ⟨b, 0, none⟩))).toArray, D⟩ w') :
    wpList P ops Q (⟨some d, .alloc T, ty, pos, af, none⟩ :: rest) ⟨l.toArray, D⟩ w := by
  have hcz : (vOf agg zero).cells = zero.toArray := by apply Array.ext'; simpa using hT.cells_
  refine step_value (v := .pointer (some ⟨w.heap.size, 0, none⟩)) (w' := w.alloc (.cells zero.toArray T)) ?_ (h _ _ (hst.alloc zero T))
  simp only [execOp, Instr.alloc, Sem.run_bind, hT.run_zero, Result.andThen_ok, newVar, newRow, newObj, hcz]
  rfl

theorem St.get {k : Nat} {c : Chunk} (hst : St S M w) (hk : M[k]? = some c) : c.at w := hst.at_ c (List.mem_of_getElem? hk)

theorem range_box {b : Nat} {c : List Value} {B : TypeId} {off z : Nat} (h : Chunk.at w (.box b c B)) : w.rangeAt b off ((c.drop off).take z) := by
  intro j v hv
  rw [List.getElem?_take] at hv
  split at hv
  · rw [List.getElem?_drop] at hv
    simp only [World.cell?, show w.heap[b]? = _ from h]
    simpa using hv
  · cases hv

/-- 'load' out of an owned box. -/
theorem s_load {T : TypeId} {x : Operand} {agg : Bool} {z : Nat} {zero : List Value} {bb : Nat} {b off : Nat} {c cs : List Value} {B : TypeId} (hst : St S M w) (hx : evF l x = .pointer (some ⟨b, off, none⟩)) (k : Nat) (hk : M[k]? = some (.box b c B))
    (hT : Ty P T agg z zero bb) (hc : (c.drop off).take z = cs) (hl : cs.length = z) (h : wpList P ops Q rest ⟨(l.set d (vOf agg cs)).toArray, D⟩ w) :
    wpList P ops Q (⟨some d, .load T x, ty, pos, af, none⟩ :: rest) ⟨l.toArray, D⟩ w := by
  refine step_value (v := vOf agg cs) (w' := w) ?_ h
  simp only [execOp, hx, Sem.run_bind, run_load hT w b off cs (hc ▸ range_box (hst.get hk)) hl, Result.andThen_ok, Sem.run_pure]
end

section
variable {ops : Array Oper} {rest : List Oper} {Q : Exit → Act → World → Prop} {l : List Value} {D : List Deferred} {w : World} {d : Tmp} {ty : TypeId} {pos : String} {af : Array Edge} {S : Snap} {M : List Chunk}

/-! ### Changing the chunk at place k -/
theorem St.move {k : Nat} {c : Chunk} (h : St S M w) (hk : M[k]? = some c) : St S (c :: M.eraseIdx k) w := by
  refine h.perm ?_
  have hlt : k < M.length := (List.getElem?_eq_some_iff.1 hk).1
  have hc : M[k] = c := (List.getElem?_eq_some_iff.1 hk).2
  rw [List.eraseIdx_eq_take_drop_succ]
  have := List.perm_middle (a := c) (l₁ := M.take k) (l₂ := M.drop (k + 1))
  refine (List.Perm.of_eq ?_).trans this
  rw [← hc, List.getElem_cons_drop, List.take_append_drop]

theorem St.back {k : Nat} {c d : Chunk} {w' : World} (hk : M[k]? = some c) (h : St S (d :: M.eraseIdx k) w') : St S (M.set k d) w' := by
  refine h.perm ?_
  have hlt : k < M.length := (List.getElem?_eq_some_iff.1 hk).1
  rw [List.eraseIdx_eq_take_drop_succ]
  have := List.perm_middle (a := d) (l₁ := M.take k) (l₂ := M.drop (k + 1))
  refine this.symm.trans (List.Perm.of_eq ?_)
  rw [List.set_eq_take_append_cons_drop, if_pos hlt]

theorem St.erase (h : St S M w) (k : Nat) : St S (M.eraseIdx k) w := by
  by_cases hk : k < M.length
  · exact (h.move (List.getElem?_eq_getElem hk)).drop
  · rw [List.eraseIdx_of_length_le (by omega)]; exact h

/-- Cells of an owned block are written. -/
theorem St.write {k : Nat} {b o : Nat} {c vs : List Value} {T : TypeId} (h : St S M w) (hk : M[k]? = some (.box b c T)) (_hf : o + vs.length ≤ c.length) :
    St S (M.set k (.box b (c.take o ++ vs ++ c.drop (o + vs.length)) T)) (w.setRow b (c.take o ++ vs ++ c.drop (o + vs.length)).toArray) := by
  have hm := h.move hk
  have hb : w.heap[b]? = some (.cells c.toArray T (0, 0)) := hm.at_ _ (.head _)
  refine St.back hk (hm.set rfl rfl rfl ?_ (fun b' hb' => .inl hb') (fun b' _ hne => ?_))
  · exact setRow_heap w b _ _ T _ hb
  · exact setRow_other w b b' _ (fun e => hne (by simp [Chunk.own, e]))

theorem run_storeRow {b o : Nat} {c vs : List Value} {T : TypeId} (hb : w.heap[b]? = some (.cells c.toArray T (0, 0))) (hf : o + vs.length ≤ c.length) (h1 : ∀ u ∈ vs, u.oneCell' = true) :
    (storeCells ⟨b, o, none⟩ vs).run P w = .ok () (w.setRow b (c.take o ++ vs ++ c.drop (o + vs.length)).toArray) := by
  have := run_storeCells_at P b o T vs 0 c.toArray w hb (by simpa using hf) h1
  simpa using this

/-- 'store' into an owned box. -/
theorem s_store {T : TypeId} {x y : Operand} {agg : Bool} {z : Nat} {zero : List Value} {bb : Nat} {b off : Nat} {c cs : List Value} {B : TypeId} {v : Value}
    (hst : St S M w) (hx : evF l x = .pointer (some ⟨b, off, none⟩)) (k : Nat) (hk : M[k]? = some (.box b c B)) (hT : Ty P T agg z zero bb)
    (hy : evF l y = v) (hc : v.cells.toList = cs) (hl : cs.length = z) (h1 : cs.all (·.oneCell') = true) (hf : off + z ≤ c.length)
    (h : ∀ w', St S (M.set k (.box b (c.take off ++ cs ++ c.drop (off + z)) B)) w' → wpList P ops Q rest ⟨l.toArray, D⟩ w') :
    wpList P ops Q (⟨none, .store T x y, ty, pos, af, none⟩ :: rest) ⟨l.toArray, D⟩ w := by
  subst hl
  have hb : w.heap[b]? = some (.cells c.toArray B (0, 0)) := hst.get hk
  refine step_skip (w' := w.setRow b (c.take off ++ cs ++ c.drop (off + cs.length)).toArray) ?_ (h _ (hst.write hk hf))
  have hsz : v.cells.size = cs.length := by rw [← hc]; simp
  simp only [execOp, hx, hy, Instr.storeAt, Instr.sureAddr, Sem.run_bind, Sem.run_pure, Result.andThen_ok, storeVar, hT.run_sizeOf, hsz, ne_eq, not_true_eq_false, if_false]
  rw [hc, run_storeRow hb hf (fun u hu => List.all_eq_true.1 h1 u hu)]
  rfl

/-! ### Data that never changes -/
class Rep (α : Type) where
  z : Nat
  agg : Bool
  R : Snap → List Value → α → Prop
  mono : ∀ {S S' : Snap} {cs : List Value} {x : α}, S.Le S' → R S cs x → R S' cs x
  len : ∀ {S : Snap} {cs : List Value} {x : α}, R S cs x → cs.length = z
  one : ∀ {S : Snap} {cs : List Value} {x : α}, R S cs x → ∀ u ∈ cs, u.oneCell' = true
  z1 : agg = false → z = 1

variable {α : Type} [Rep α]

/-- The value v is the datum x. -/
def Rv (S : Snap) (v : Value) (x : α) : Prop := ∃ cs, v = vOf (Rep.agg α) cs ∧ Rep.R S cs x
/-- The pointer p points to the datum x, which never changes. -/
def Pt (S : Snap) (p : Value) (x : α) : Prop := ∃ b o c T fz, p = .pointer (some ⟨b, o, none⟩) ∧ S.blk b = some (.cells c T fz) ∧ Rep.R S ((c.toList.drop o).take (Rep.z α)) x
/-- Cells, one datum behind the other. -/
def RL (S : Snap) (c : List Value) (xs : List α) : Prop := c.length = xs.length * Rep.z α ∧ ∀ i x, xs[i]? = some x → Rep.R S ((c.drop (i * Rep.z α)).take (Rep.z α)) x
/-- The slice v is the list xs. -/
def RSl (S : Snap) (v : Value) (xs : List α) : Prop :=
  (∃ ad cap, v = .slice ad 0 cap ∧ xs = [] ∧ cap ≤ maxLen) ∨ ∃ b o cap c T fz, v = .slice (some ⟨b, o, none⟩) xs.length cap ∧ S.blk b = some (.cells c T fz) ∧ xs.length ≤ cap ∧ cap ≤ maxLen ∧ RL S ((c.toList.drop o).take (xs.length * Rep.z α)) xs

theorem Rv.mono {S' : Snap} {v : Value} {x : α} (hS : S.Le S') (h : Rv S v x) : Rv S' v x := let ⟨cs, a, b⟩ := h; ⟨cs, a, Rep.mono hS b⟩
theorem Pt.mono {S' : Snap} {v : Value} {x : α} (hS : S.Le S') (h : Pt S v x) : Pt S' v x := let ⟨b, o, c, T, fz, h1, h2, h3⟩ := h; ⟨b, o, c, T, fz, h1, hS.blk _ _ h2, Rep.mono hS h3⟩
theorem RL.mono {S' : Snap} {c : List Value} {xs : List α} (hS : S.Le S') (h : RL S c xs) : RL S' c xs := ⟨h.1, fun i x hx => Rep.mono hS (h.2 i x hx)⟩
theorem RSl.mono {S' : Snap} {v : Value} {xs : List α} (hS : S.Le S') (h : RSl S v xs) : RSl S' v xs :=
  h.imp id fun ⟨b, o, cap, c, T, fz, h1, h2, h3, h4, h5⟩ => ⟨b, o, cap, c, T, fz, h1, hS.blk _ _ h2, h3, h4, h5.mono hS⟩

theorem RL.one {c : List Value} {xs : List α} (h : RL S c xs) : ∀ u ∈ c, u.oneCell' = true := by
  intro u hu
  obtain ⟨j, hj, rfl⟩ := List.mem_iff_getElem.1 hu
  have hz : 0 < Rep.z α := by
    rcases Nat.eq_zero_or_pos (Rep.z α) with e | e
    · have := h.1; rw [e] at this; simp at this; subst this; simp at hj
    · exact e
  have hi : j / Rep.z α < xs.length := by rw [Nat.div_lt_iff_lt_mul hz, ← h.1]; exact hj
  have := Rep.one (h.2 (j / Rep.z α) _ (List.getElem?_eq_getElem hi))
  refine this _ (List.mem_iff_getElem?.2 ⟨j % Rep.z α, ?_⟩)
  rw [List.getElem?_take, if_pos (Nat.mod_lt _ hz), List.getElem?_drop, Nat.div_add_mod', List.getElem?_eq_getElem hj]

theorem RL.nil : RL S [] ([] : List α) := ⟨by simp, fun i x h => by simp at h⟩
theorem RL.append {c c' : List Value} {xs ys : List α} (h : RL S c xs) (h' : RL S c' ys) : RL S (c ++ c') (xs ++ ys) := by
  refine ⟨by simp [h.1, h'.1, Nat.add_mul], fun i x hx => ?_⟩
  rcases Nat.lt_or_ge i xs.length with hi | hi
  · rw [List.getElem?_append_left hi] at hx
    have hle : i * Rep.z α + Rep.z α ≤ c.length := by rw [h.1, ← Nat.succ_mul]; exact Nat.mul_le_mul_right _ hi
    rw [List.drop_append_of_le_length (by omega), List.take_append_of_le_length (by simp; omega)]
    exact h.2 i x hx
  · rw [List.getElem?_append_right hi] at hx
    have e : i * Rep.z α = c.length + (i - xs.length) * Rep.z α := by rw [h.1, ← Nat.add_mul]; congr 1; omega
    rw [e, List.drop_append, List.drop_of_length_le (by omega), List.nil_append, show c.length + (i - xs.length) * Rep.z α - c.length = (i - xs.length) * Rep.z α from by omega]
    exact h'.2 _ x hx
theorem RL.one_mk {cs : List Value} {x : α} (h : Rep.R S cs x) : RL S cs [x] := by
  refine ⟨by simp [Rep.len h], fun i y hy => ?_⟩
  match i, hy with
  | 0, hy => simp at hy; subst hy; rw [Nat.zero_mul, List.drop_zero, List.take_of_length_le (by rw [Rep.len h]; exact Nat.le_refl _)]; exact h
  | i + 1, hy => simp at hy

theorem RL.sub {c : List Value} {xs : List α} (h : RL S c xs) (i n : Nat) (hin : i + n ≤ xs.length) : RL S ((c.drop (i * Rep.z α)).take (n * Rep.z α)) ((xs.drop i).take n) := by
  have hl := h.1
  have hb : i * Rep.z α + n * Rep.z α ≤ xs.length * Rep.z α := by rw [← Nat.add_mul]; exact Nat.mul_le_mul_right _ hin
  refine ⟨by simp only [List.length_take, List.length_drop, hl]; rw [Nat.min_eq_left (by omega), Nat.min_eq_left (by omega)], fun j x hx => ?_⟩
  rw [List.getElem?_take] at hx
  split at hx
  · rename_i hj
    rw [List.getElem?_drop] at hx
    have h2 := h.2 _ x hx
    have hjz : j * Rep.z α + Rep.z α ≤ n * Rep.z α := by rw [← Nat.succ_mul]; exact Nat.mul_le_mul_right _ hj
    rw [List.drop_take, List.take_take, Nat.min_eq_left (by omega), List.drop_drop, ← Nat.add_mul]
    exact h2
  · cases hx

theorem RL.at_ {c : List Value} {xs : List α} (h : RL S c xs) (i : Nat) (hi : i < xs.length) : Rep.R S ((c.drop (i * Rep.z α)).take (Rep.z α)) xs[i] := h.2 i _ (List.getElem?_eq_getElem hi)

/-- Slices are data. -/
instance instRepList : Rep (List α) where
  z := 1
  agg := false
  R S cs x := ∃ v, cs = [v] ∧ RSl S v x
  mono hS h := let ⟨v, h1, h2⟩ := h; ⟨v, h1, h2.mono hS⟩
  len h := let ⟨v, h1, _⟩ := h; by rw [h1]; rfl
  one h := by
    obtain ⟨v, rfl, h2⟩ := h
    intro u hu
    obtain rfl : u = v := by simpa using hu
    rcases h2 with ⟨ad, cap, rfl, _⟩ | ⟨b, o, cap, c, T, fz, rfl, _⟩ <;> rfl
  z1 _ := rfl

def I64 (n : Int) : Prop := -9223372036854775808 ≤ n ∧ n ≤ 9223372036854775807

instance instRepInt : Rep Int where
  z := 1
  agg := false
  R _ cs x := cs = [.int .i64 x] ∧ I64 x
  mono _ h := h
  len h := by rw [h.1]; rfl
  one h := by rw [h.1]; intro u hu; simp at hu; subst hu; rfl
  z1 _ := rfl

instance instRepU8 : Rep UInt8 where
  z := 1
  agg := false
  R _ cs x := cs = [.int .u8 x.toNat]
  mono _ h := h
  len h := by rw [h]; rfl
  one h := by rw [h]; intro u hu; simp at hu; subst hu; rfl
  z1 _ := rfl

instance instRepBool : Rep Bool where
  z := 1
  agg := false
  R _ cs x := cs = [.bool x]
  mono _ h := h
  len h := by rw [h]; rfl
  one h := by rw [h]; intro u hu; simp at hu; subst hu; rfl
  z1 _ := rfl

/-- A string. -/
structure Str where
  b : List UInt8
  deriving DecidableEq

instance instRepStr : Rep Str where
  z := 1
  agg := false
  R _ cs x := cs = [.string ⟨x.b.toArray⟩] ∧ x.b.length ≤ maxLen
  mono _ h := h
  len h := by rw [h.1]; rfl
  one h := by rw [h.1]; intro u hu; simp at hu; subst hu; rfl
  z1 _ := rfl

/-! ### Reading data -/
class SlT (P : Program) (T : TypeId) (E : outParam TypeId) : Prop where
  u : P.underlying T = some (.slice E)

theorem range_of {b o n : Nat} {c : Array Value} {T : TypeId} {fz : Nat × Nat} (h : w.heap[b]? = some (.cells c T fz)) : w.rangeAt b o ((c.toList.drop o).take n) := by
  intro j v hv
  rw [List.getElem?_take] at hv
  split at hv
  · rw [List.getElem?_drop] at hv
    simp only [World.cell?, h]
    simpa using hv
  · cases hv

/-- 'x[i]' of a slice of data: the element's address. -/
theorem s_index {T E : TypeId} {x i : Operand} {agg : Bool} {zero : List Value} {bb : Nat} {v : Value} {xs : List α} {k : IntKind} {n : Int} (_hst : St S M w) (hx : evF l x = v) (hv : RSl S v xs) (hi : evF l i = .int k n)
    (hT : SlT P T E) (hE : Ty P E agg (Rep.z α) zero bb) (h0 : 0 ≤ n) (hn : n.toNat < xs.length)
    (h : ∀ p, Pt S p (xs[n.toNat]) → wpList P ops Q rest ⟨(l.set d p).toArray, D⟩ w) :
    wpList P ops Q (⟨some d, .indexAddr T x i, ty, pos, af, none⟩ :: rest) ⟨l.toArray, D⟩ w := by
  rcases hv with ⟨_, _, _, rfl, _⟩ | ⟨b, o, cap, c, B, fz, rfl, hb, hc, hm, hRL⟩
  · simp at hn
  · refine step_value (v := .pointer (some ⟨b, o + n.toNat * Rep.z α, none⟩)) (w' := w) ?_ (h _ ⟨b, _, c, B, fz, rfl, hb, ?_⟩)
    · have hlt : n < xs.length := by omega
      simp [execOp, hx, hi, Instr.indexAt, asIntOf, run_underlying hT.u, h0, hlt, hE.run_sizeOf, Addr.add_mid]
    · have := hRL.at_ n.toNat hn
      rw [List.drop_take, List.take_take, List.drop_drop, Nat.min_eq_left (by
        have : n.toNat * Rep.z α + Rep.z α ≤ xs.length * Rep.z α := by rw [← Nat.succ_mul]; exact Nat.mul_le_mul_right _ hn
        omega)] at this
      exact this

/-- 'load' of a datum. -/
theorem s_ldp {T : TypeId} {x : Operand} {zero : List Value} {bb : Nat} {p : Value} {y : α} (hst : St S M w) (hx : evF l x = p) (hp : Pt S p y)
    (hT : Ty P T (Rep.agg α) (Rep.z α) zero bb) (h : ∀ cs, Rep.R S cs y → wpList P ops Q rest ⟨(l.set d (vOf (Rep.agg α) cs)).toArray, D⟩ w) :
    wpList P ops Q (⟨some d, .load T x, ty, pos, af, none⟩ :: rest) ⟨l.toArray, D⟩ w := by
  obtain ⟨b, o, c, B, fz, rfl, hb, hR⟩ := hp
  refine step_value (v := vOf (Rep.agg α) ((c.toList.drop o).take (Rep.z α))) (w' := w) ?_ (h _ hR)
  simp only [execOp, hx, Sem.run_bind, run_load hT w b o _ (range_of (hst.has _ _ hb)) (Rep.len hR), Result.andThen_ok, Sem.run_pure]

/-- 'len' of a slice of data. -/
theorem s_len {T : TypeId} {E : TypeId} {x : Operand} {v : Value} {xs : List α} (hx : evF l x = v) (hv : RSl S v xs) (hT : SlT P T E)
    (h : wpList P ops Q rest ⟨(l.set d (.int .i64 xs.length)).toArray, D⟩ w) :
    wpList P ops Q (⟨some d, .call { callee := .builtin .len, args := #[x], argTypes := #[T] }, ty, pos, af, none⟩ :: rest) ⟨l.toArray, D⟩ w := by
  refine step_value (v := .int .i64 xs.length) (w' := w) ?_ h
  rcases hv with ⟨ad, cap, rfl, rfl, _⟩ | ⟨b, o, cap, c, B, fz, rfl, hb, hc, hm, hRL⟩ <;>
    simp [execOp, resolve, invoke, builtin, hx, Builtin.len_, run_underlying hT.u, goInt]
end
end Go.Sl

namespace Go.Sl
open Go.RowKit
variable {P : Program}
section
variable {ops : Array Oper} {rest : List Oper} {Q : Exit → Act → World → Prop} {l : List Value} {D : List Deferred} {w : World} {d : Tmp} {ty : TypeId} {pos : String} {af : Array Edge} {S : Snap} {M : List Chunk}

/-! ### Guards, and which operations are plain -/
theorem guard_yes {dst : Option Tmp} {op : Op} {g : Nat × Bool} {a : Act} (hg : yielded ops a.tmps g.1 = some g.2)
    (h : wpList P ops Q (⟨dst, op, ty, pos, af, none⟩ :: rest) a w) : wpList P ops Q (⟨dst, op, ty, pos, af, some g⟩ :: rest) a w := by
  unfold wpList at h ⊢
  rw [if_pos (by simp [Region.wanted, hg])]
  rw [if_pos (by simp [Region.wanted])] at h
  exact h

theorem guard_no {dst : Option Tmp} {op : Op} {g : Nat × Bool} (hg : (yielded ops l.toArray g.1 == some g.2) = false)
    (h : wpList P ops Q rest ⟨(match dst with | some t => l.set t undef | none => l).toArray, D⟩ w) : wpList P ops Q (⟨dst, op, ty, pos, af, some g⟩ :: rest) ⟨l.toArray, D⟩ w := by
  refine wpList_skip (by simpa [Region.wanted] using hg) ?_
  cases dst <;> simpa [Act.put] using h

/-- A guard whose Bool is not known yet: both ways. -/
theorem guard_cases {dst : Option Tmp} {op : Op} {j : Nat} {want t : Bool} (hy : yielded ops l.toArray j = some t)
    (h1 : t = want → wpList P ops Q (⟨dst, op, ty, pos, af, none⟩ :: rest) ⟨l.toArray, D⟩ w)
    (h2 : t = !want → wpList P ops Q rest ⟨(match dst with | some t => l.set t undef | none => l).toArray, D⟩ w) : wpList P ops Q (⟨dst, op, ty, pos, af, some (j, want)⟩ :: rest) ⟨l.toArray, D⟩ w := by
  by_cases e : t = want
  · exact guard_yes (by rw [hy, e]) (h1 e)
  · refine guard_no (by rw [hy]; simpa using e) (h2 (by cases t <;> cases want <;> simp_all))

def plainOp : Op → Bool
  | .move _ | .assign _ | .pick .. | .binOp .. | .unOp .. | .convert .. | .build .. | .extract .. | .index .. | .field .. | .makeFunc .. | .makeInterface .. | .nilCheck .. => true
  | _ => false

theorem gate {o : Oper} {a : Act} (_h : plainOp o.op = true) (g : wpList P ops Q (o :: rest) a w) : wpList P ops Q (o :: rest) a w := g
theorem is_list {o : Oper} {a : Act} (g : wpList P ops Q (o :: rest) a w) : wpList P ops Q (o :: rest) a w := g

/-! ### Products: structs -/
variable {α β γ : Type} [Rep α] [Rep β] [Rep γ]

instance instRepUnit : Rep Unit where
  z := 0
  agg := true
  R _ cs _ := cs = []
  mono _ h := h
  len h := by rw [h]; rfl
  one h := by rw [h]; intro u hu; simp at hu
  z1 h := by cases h

instance instRepProd : Rep (α × β) where
  z := Rep.z α + Rep.z β
  agg := true
  R S cs x := cs.length = Rep.z α + Rep.z β ∧ Rep.R S (cs.take (Rep.z α)) x.1 ∧ Rep.R S (cs.drop (Rep.z α)) x.2
  mono hS h := ⟨h.1, Rep.mono hS h.2.1, Rep.mono hS h.2.2⟩
  len h := h.1
  one h := by
    intro u hu
    rename_i cs x
    rw [← List.take_append_drop (Rep.z α) cs] at hu
    rcases List.mem_append.1 hu with hu | hu
    · exact Rep.one h.2.1 u hu
    · exact Rep.one h.2.2 u hu
  z1 h := by cases h

theorem prod_mk {cs cs' : List Value} {x : α} {y : β} (h : Rep.R S cs x) (h' : Rep.R S cs' y) : Rep.R S (cs ++ cs') (x, y) := by
  have e := Rep.len h
  refine ⟨by rw [List.length_append, e, Rep.len h'], ?_, ?_⟩
  · rw [← e, List.take_left]; exact h
  · rw [← e, List.drop_left]; exact h'

theorem unit_mk : Rep.R S [] () := rfl

/-- Field k of a struct: where it lies, how it is read and written. -/
class HasF (α : Type) [Rep α] (k : Nat) (β : outParam Type) [outParam (Rep β)] (off : outParam Nat) (get : outParam (α → β)) (put : outParam (α → β → α)) : Prop where
  le : off + Rep.z β ≤ Rep.z α
  rd : ∀ {S : Snap} {cs : List Value} {x : α}, Rep.R S cs x → Rep.R S ((cs.drop off).take (Rep.z β)) (get x)
  wr : ∀ {S : Snap} {cs vs : List Value} {x : α} {y : β}, Rep.R S cs x → Rep.R S vs y → Rep.R S (cs.take off ++ vs ++ cs.drop (off + Rep.z β)) (put x y)

instance instHasF0 : HasF (α × β) 0 α 0 (fun x => x.1) (fun x y => (y, x.2)) where
  le := by show 0 + Rep.z α ≤ Rep.z α + Rep.z β; omega
  rd h := by simpa using h.2.1
  wr h h' := by simpa using prod_mk h' h.2.2

instance instHasFS {k off : Nat} {get : β → γ} {put : β → γ → β} [inst : HasF β k γ off get put] : HasF (α × β) (k + 1) γ (Rep.z α + off) (fun x => get x.2) (fun x y => (x.1, put x.2 y)) where
  le := by have := inst.le; show Rep.z α + off + Rep.z γ ≤ Rep.z α + Rep.z β; omega
  rd h := by
    have := inst.rd h.2.2
    rwa [List.drop_drop] at this
  wr h h' := by
    rename_i S cs vs x y
    have h2 := inst.wr h.2.2 h'
    have h1 : Rep.R S (cs.take (Rep.z α)) x.1 := h.2.1
    have := prod_mk h1 h2
    have hl : cs.length = Rep.z α + Rep.z β := h.1
    have e : cs.take (Rep.z α + off) ++ vs ++ cs.drop (Rep.z α + off + Rep.z γ) = cs.take (Rep.z α) ++ ((cs.drop (Rep.z α)).take off ++ vs ++ (cs.drop (Rep.z α)).drop (off + Rep.z γ)) := by
      rw [List.take_add, List.drop_drop, ← Nat.add_assoc]
      simp only [List.append_assoc]
    rw [e]
    exact this

/-- Fixed arrays. -/
structure Arr (α : Type) (n : Nat) where
  l : List α
  deriving DecidableEq

instance instRepArr {n : Nat} : Rep (Arr α n) where
  z := n * Rep.z α
  agg := true
  R S cs x := x.l.length = n ∧ RL S cs x.l
  mono hS h := ⟨h.1, h.2.mono hS⟩
  len h := by rw [h.2.1, h.1]
  one h := h.2.one
  z1 h := by cases h

/-! ### Addresses of fields and of an array's elements -/
/-- Where field k of T lies; T a struct, the field not empty. -/
def fldOff (P : Program) (T : TypeId) (k : Nat) : Option Nat :=
  match P.underlying T with
  | some (.struct fs) => match fs[k]? with
    | some f => match (P.info? f.type).map (·.size) with
      | some (_ + 1) => some f.offset
      | _ => none
    | none => none
  | _ => none

class FldT (P : Program) (T : TypeId) (k : Nat) (off : outParam Nat) : Prop where
  ok : fldOff P T k = some off

theorem run_fieldAt {T : TypeId} {k off : Nat} (h : FldT P T k off) (b o : Nat) : (Instr.fieldAt T (.pointer (some ⟨b, o, none⟩)) k).run P w = .ok (.pointer (some ⟨b, o + off, none⟩)) w := by
  have hk := h.ok
  unfold fldOff at hk
  split at hk
  · rename_i fs h1
    split at hk
    · rename_i f h2
      split at hk
      · rename_i m h3
        cases hk
        cases hi : P.info? f.type with
        | none => simp [hi] at h3
        | some i =>
          have h4 : i.size ≠ 0 := by simp [hi] at h3; omega
          simp [Instr.fieldAt, run_underlying h1, h2, Instr.sureAddr, fieldPlace, sizeOf, typeInfo, hi, h4, Addr.add_mid]
      · cases hk
    · cases hk
  · cases hk

theorem s_field {T : TypeId} {k off : Nat} {x : Operand} {b o : Nat} (hx : evF l x = .pointer (some ⟨b, o, none⟩)) (hT : FldT P T k off)
    (h : wpList P ops Q rest ⟨(l.set d (.pointer (some ⟨b, o + off, none⟩))).toArray, D⟩ w) :
    wpList P ops Q (⟨some d, .fieldAddr T x k, ty, pos, af, none⟩ :: rest) ⟨l.toArray, D⟩ w := by
  refine step_value (w' := w) ?_ h
  simp only [execOp, hx, Sem.run_bind, run_fieldAt hT, Result.andThen_ok, Sem.run_pure]

theorem Pt.field {k : Nat} {off : Nat} {get : α → β} {put : α → β → α} [i : HasF α k β off get put] {b o : Nat} {x : α} (h : Pt S (.pointer (some ⟨b, o, none⟩)) x) :
    Pt S (.pointer (some ⟨b, o + off, none⟩)) (get x) := by
  obtain ⟨b', o', c, T, fz, h1, h2, h3⟩ := h
  simp only [Value.pointer.injEq, Option.some.injEq, Addr.mk.injEq, and_true] at h1
  obtain ⟨rfl, rfl⟩ := h1
  refine ⟨b, _, c, T, fz, rfl, h2, ?_⟩
  have := i.rd h3
  rw [List.drop_take, List.take_take, List.drop_drop, Nat.min_eq_left (by have := i.le; omega)] at this
  exact this

/-- The address of a datum's field. -/
theorem s_fieldp {T : TypeId} {k off off' : Nat} {get : α → β} {put : α → β → α} {x : Operand} {p : Value} {y : α} (hx : evF l x = p) (hp : Pt S p y) (hT : FldT P T k off) (_hF : HasF α k β off' get put) (ho : off = off')
    (h : ∀ q, Pt S q (get y) → wpList P ops Q rest ⟨(l.set d q).toArray, D⟩ w) :
    wpList P ops Q (⟨some d, .fieldAddr T x k, ty, pos, af, none⟩ :: rest) ⟨l.toArray, D⟩ w := by
  subst ho
  obtain ⟨b, o, c, B, fz, rfl, hb, hR⟩ := id hp
  exact s_field hx hT (h _ (Pt.field (k := k) (put := put) hp))

class ArrT (P : Program) (T : TypeId) (n : outParam Nat) (E : outParam TypeId) : Prop where
  u : P.underlying T = some (.array n E)

theorem s_indexA {T E : TypeId} {n : Nat} {x i : Operand} {agg : Bool} {z : Nat} {zero : List Value} {bb : Nat} {b o : Nat} {k : IntKind} {j : Int} (hx : evF l x = .pointer (some ⟨b, o, none⟩)) (hi : evF l i = .int k j)
    (hT : ArrT P T n E) (hE : Ty P E agg z zero bb) (h0 : 0 ≤ j) (hn : j.toNat < n)
    (h : wpList P ops Q rest ⟨(l.set d (.pointer (some ⟨b, o + j.toNat * z, none⟩))).toArray, D⟩ w) :
    wpList P ops Q (⟨some d, .indexAddr T x i, ty, pos, af, none⟩ :: rest) ⟨l.toArray, D⟩ w := by
  refine step_value (w' := w) ?_ h
  have hlt : j < n := by omega
  simp [execOp, hx, hi, Instr.indexAt, asIntOf, run_underlying hT.u, Instr.sureAddr, h0, hlt, hE.run_sizeOf, Addr.add_mid]

theorem Pt.elem {n : Nat} {b o : Nat} {x : Arr α n} (h : Pt S (.pointer (some ⟨b, o, none⟩)) x) (j : Nat) (hj : j < x.l.length) : Pt S (.pointer (some ⟨b, o + j * Rep.z α, none⟩)) x.l[j] := by
  obtain ⟨b', o', c, T, fz, h1, h2, h3⟩ := h
  simp only [Value.pointer.injEq, Option.some.injEq, Addr.mk.injEq, and_true] at h1
  obtain ⟨rfl, rfl⟩ := h1
  refine ⟨b, _, c, T, fz, rfl, h2, ?_⟩
  have := h3.2.at_ j hj
  rw [List.drop_take, List.take_take, List.drop_drop, Nat.min_eq_left (by
    have e : j * Rep.z α + Rep.z α ≤ n * Rep.z α := by rw [← Nat.succ_mul]; exact Nat.mul_le_mul_right _ (h3.1 ▸ hj)
    show Rep.z α ≤ n * Rep.z α - j * Rep.z α
    omega)] at this
  exact this

theorem s_indexAp {T E : TypeId} {n m : Nat} {x i : Operand} {agg : Bool} {zero : List Value} {bb : Nat} {p : Value} {y : Arr α m} {k : IntKind} {j : Int} (hx : evF l x = p) (hp : Pt S p y) (hi : evF l i = .int k j)
    (hT : ArrT P T n E) (hE : Ty P E agg (Rep.z α) zero bb) (hm : n = m) (h0 : 0 ≤ j) (hn : j.toNat < y.l.length)
    (h : ∀ q, Pt S q y.l[j.toNat] → wpList P ops Q rest ⟨(l.set d q).toArray, D⟩ w) :
    wpList P ops Q (⟨some d, .indexAddr T x i, ty, pos, af, none⟩ :: rest) ⟨l.toArray, D⟩ w := by
  subst hm
  obtain ⟨b, o, c, B, fz, rfl, hb, hR⟩ := id hp
  exact s_indexA hx hi hT hE h0 (hR.1 ▸ hn) (h _ (Pt.elem hp _ hn))
end
end Go.Sl
