/- Struct literals. General over the program. -/
import Derived.Test.YtmbdbfdlbbkclaaDoorSlU
namespace Go.Sl
set_option linter.unusedSimpArgs false
set_option linter.unusedVariables false
open Go.RowKit
variable {P : Program} {S : Snap} {M : List Chunk} {l : List Value}

/-- A struct type: where its fields lie, and how many cells each has. -/
class StructT (P : Program) (T : TypeId) (places : outParam (List (Nat × Nat))) : Prop where
  ok : (match P.underlying T with | some (.struct fs) => fs.toList.mapM fun f => (P.info? f.type).map fun i => (f.offset, i.size) | _ => none) = some places

theorem run_places (w : World) : ∀ (fs : List Field) (places : List (Nat × Nat)), (fs.mapM fun f => (P.info? f.type).map fun i => (f.offset, i.size)) = some places →
    (fs.mapM fun f => do pure (f.offset, ← sizeOf f.type) : Sem (List (Nat × Nat))).run P w = .ok places w
  | [], places, h => by
    obtain rfl : [] = places := by simpa using h
    rfl
  | f :: fs, places, h => by
    rw [List.mapM_cons] at h ⊢
    cases hi : P.info? f.type with
    | none => simp [hi] at h
    | some i =>
      simp only [hi, Option.map_some, Option.pure_def, Option.bind_eq_bind, Option.bind_some] at h
      cases hr : (fs.mapM fun f => (P.info? f.type).map fun i => (f.offset, i.size)) with
      | none => simp [hr] at h
      | some ps =>
        simp only [hr, Option.bind_some, Option.some.injEq] at h
        have := run_places w fs ps hr
        subst h
        have hsz : (sizeOf f.type).run P w = .ok i.size w := by simp [sizeOf, typeInfo, hi]
        simp only [Sem.run_bind, hsz, Result.andThen_ok, Sem.run_pure, this]

theorem qt_buildS {T : TypeId} {ps : List (Nat × Operand)} {places : List (Nat × Nat)} {z : Nat} {zero : List Value} {bb : Nat} {cs : List Value} (hT : StructT P T places) (hZ : Ty P T true z zero bb)
    (hf : Instr.fill (fun i => places.toArray[i]?) zero.toArray (ps.map fun q => (q.1, evF l q.2)) = some cs.toArray) : Qt P l (.build T ps.toArray) S M (.agg cs.toArray) := fun dst ty pos af w _ => by
  have h := hT.ok
  cases hu : P.underlying T with
  | none => simp [hu] at h
  | some d =>
    rw [hu] at h
    cases d with
    | struct fs =>
      have hp := run_places w fs.toList places h
      have hcz : (vOf true zero).cells = zero.toArray := rfl
      simp only [execOp, Instr.build, Sem.run_bind, hZ.run_zero, Result.andThen_ok, run_underlying hu]
      rw [Array.mapM_eq_mapM_toList]
      have e : (Array.map (fun x : Nat × Operand => (x.fst, evF l x.snd)) ps.toArray).toList = ps.map fun q => (q.1, evF l q.2) := by simp
      rw [map_eq_pure_bind, Sem.run_bind, hp]
      simp only [Result.andThen_ok, Sem.run_pure, hcz, e, hf]
    | _ => simp at h
theorem qt_eql_self {T U : TypeId} {x y : Operand} {k : IntKind} {a : Int} (hx : evF l x = .int k a) (hy : evF l y = .int k a) : Qt P l (.binOp .eql T x y U) S M (.bool true) := by
  have := qt_eql (P := P) (T := T) (U := U) (S := S) (M := M) hx hy
  rwa [beq_self_eq_true] at this
theorem qt_neq_self {T U : TypeId} {x y : Operand} {k : IntKind} {a : Int} (hx : evF l x = .int k a) (hy : evF l y = .int k a) : Qt P l (.binOp .neq T x y U) S M (.bool false) := by
  have := qt_neq (P := P) (T := T) (U := U) (S := S) (M := M) hx hy
  rwa [bne_self_eq_false] at this
/-- A type of truth values. -/
class BoolT (P : Program) (T : TypeId) : Prop where
  u : P.underlying T = some .bool
theorem run_beq {T : TypeId} (hT : BoolT P T) (w : World) (a b : Bool) : (Op.equal T (.bool a) (.bool b)).run P w = .ok (a == b) w := run_equalIn_bool w 9999 T a b hT.u
theorem qt_eql_bool {T U : TypeId} {x y : Operand} {a b : Bool} (hx : evF l x = .bool a) (hy : evF l y = .bool b) (hT : BoolT P T) : Qt P l (.binOp .eql T x y U) S M (.bool (a == b)) := fun dst ty pos af w _ => by
  have h := run_beq hT w a b
  simp [execOp, hx, hy, eqGuard_at_bool, binOp, h]
theorem qt_neq_bool {T U : TypeId} {x y : Operand} {a b : Bool} (hx : evF l x = .bool a) (hy : evF l y = .bool b) (hT : BoolT P T) : Qt P l (.binOp .neq T x y U) S M (.bool (a != b)) := fun dst ty pos af w _ => by
  have h := run_beq hT w a b
  simp [execOp, hx, hy, eqGuard_at_bool, binOp, h, bne]
theorem qt_eql_bself {T U : TypeId} {x y : Operand} {a : Bool} (hx : evF l x = .bool a) (hy : evF l y = .bool a) (hT : BoolT P T) : Qt P l (.binOp .eql T x y U) S M (.bool true) := by
  have := qt_eql_bool (P := P) (T := T) (U := U) (S := S) (M := M) hx hy hT
  rwa [beq_self_eq_true] at this
end Go.Sl
