/- Own slices whose cells are those of a list, cell by cell: read and written in place. -/
import Derived.Test.YtmbdbfdlbbkclaaDoorSlT
namespace Go.Sl
set_option linter.unusedSimpArgs false
set_option linter.unusedVariables false
open Go.RowKit
variable {P : Program}

/-- The cells of a list, laid one after another. -/
def cF {α : Type} (f : α → List Value) (xs : List α) : List Value := (xs.map f).flatten

theorem cF_len {α : Type} {f : α → List Value} {z : Nat} (hz : ∀ x, (f x).length = z) (xs : List α) : (cF f xs).length = xs.length * z := by
  induction xs with
  | nil => simp [cF]
  | cons x xs ih => simp only [cF, List.map_cons, List.flatten_cons, List.length_append, List.length_cons, hz, Nat.succ_mul] at *; omega

theorem cF_cut {α : Type} {f : α → List Value} {z : Nat} (hz : ∀ x, (f x).length = z) : ∀ (xs : List α) (j : Nat) (hj : j < xs.length),
    cF f xs = cF f (xs.take j) ++ f xs[j] ++ cF f (xs.drop (j + 1)) ∧ (cF f (xs.take j)).length = j * z := by
  intro xs j hj
  refine ⟨?_, by rw [cF_len hz]; simp; rw [Nat.min_eq_left (by omega)]⟩
  have : xs = xs.take j ++ xs[j] :: xs.drop (j + 1) := by simp
  have e : cF f xs = cF f (xs.take j ++ xs[j] :: xs.drop (j + 1)) := congrArg _ this
  rw [e, cF, List.map_append, List.flatten_append, List.map_cons, List.flatten_cons, List.append_assoc]
  rfl

theorem cF_get {α : Type} {f : α → List Value} {z : Nat} (hz : ∀ x, (f x).length = z) (xs : List α) (j : Nat) (hj : j < xs.length) : ((cF f xs).drop (j * z)).take z = f xs[j] := by
  obtain ⟨h, hl⟩ := cF_cut hz xs j hj
  rw [h, List.append_assoc, List.drop_append_of_le_length (by omega), List.drop_of_length_le (by omega), List.nil_append, List.take_append_of_le_length (by rw [hz]; exact Nat.le_refl _), List.take_of_length_le (by rw [hz]; exact Nat.le_refl _)]

theorem cF_set {α : Type} {f : α → List Value} {z : Nat} (hz : ∀ x, (f x).length = z) (xs : List α) (j : Nat) (hj : j < xs.length) (y : α) :
    (cF f xs).take (j * z) ++ f y ++ (cF f xs).drop (j * z + z) = cF f (xs.set j y) := by
  obtain ⟨h, hl⟩ := cF_cut hz xs j hj
  obtain ⟨h', hl'⟩ := cF_cut hz (xs.set j y) j (by simpa using hj)
  rw [h', h]
  have e1 : (cF f (xs.take j) ++ f xs[j] ++ cF f (xs.drop (j + 1))).take (j * z) = cF f (xs.take j) := by
    rw [List.append_assoc, ← hl, List.take_left]
  have e2 : (cF f (xs.take j) ++ f xs[j] ++ cF f (xs.drop (j + 1))).drop (j * z + z) = cF f (xs.drop (j + 1)) := by
    have : (cF f (xs.take j) ++ f xs[j]).length = j * z + z := by simp [hl, hz]
    rw [← this, List.drop_left]
  rw [e1, e2, List.getElem_set_self, List.take_set_of_le (Nat.le_refl _), List.drop_set_of_lt (Nat.lt_succ_self _)]

def boolC (b : Bool) : List Value := [.bool b]
def intC (n : Int) : List Value := [.int .i64 n]
def pairC (p : Int × Int) : List Value := [.int .i64 p.1, .int .i64 p.2]

section
variable {ops : Array Oper} {rest : List Oper} {Q : Exit → Act → World → Prop} {l : List Value} {D : List Deferred} {w : World} {d : Tmp} {ty : TypeId} {pos : String} {af : Array Edge} {S : Snap} {M : List Chunk}

theorem qt_ldB {T F : TypeId} {x : Operand} {zero : List Value} {bb : Nat} {v p : Value} {j k n : Nat} {xs : List Bool} (hx : evF l x = p) (hp : PtO v p (j * 1)) (hk : M[k]? = some (.sl v F 1 n (cF boolC xs)))
    (hT : Ty P T false 1 zero bb) (hl : j < xs.length) : Qt P l (.load T x) S M (.bool xs[j]) := by
  have h := qt_load_own (S := S) hx hp hk hT (cF_get (f := boolC) (z := 1) (fun _ => rfl) xs j hl) (by rw [cF_len (f := boolC) (z := 1) (fun _ => rfl)]; omega)
  exact h

theorem qt_ldI {T F : TypeId} {x : Operand} {zero : List Value} {bb : Nat} {v p : Value} {j k n : Nat} {xs : List Int} (hx : evF l x = p) (hp : PtO v p (j * 1)) (hk : M[k]? = some (.sl v F 1 n (cF intC xs)))
    (hT : Ty P T false 1 zero bb) (hl : j < xs.length) : Qt P l (.load T x) S M (.int .i64 xs[j]) := by
  have h := qt_load_own (S := S) hx hp hk hT (cF_get (f := intC) (z := 1) (fun _ => rfl) xs j hl) (by rw [cF_len (f := intC) (z := 1) (fun _ => rfl)]; omega)
  exact h

theorem qt_ld2 {T F : TypeId} {x : Operand} {zero : List Value} {bb : Nat} {v p : Value} {j k n : Nat} {xs : List (Int × Int)} (hx : evF l x = p) (hp : PtO v p (j * 2)) (hk : M[k]? = some (.sl v F 2 n (cF pairC xs)))
    (hT : Ty P T true 2 zero bb) (hl : j < xs.length) : Qt P l (.load T x) S M (.agg #[.int .i64 xs[j].1, .int .i64 xs[j].2]) := by
  have h := qt_load_own (S := S) hx hp hk hT (cF_get (f := pairC) (z := 2) (fun _ => rfl) xs j hl) (by rw [cF_len (f := pairC) (z := 2) (fun _ => rfl)]; omega)
  exact h

/-- A whole datum stored into a box of its own. -/
theorem s_stR {α : Type} [Rep α] {T B : TypeId} {x y : Operand} {zero c cl : List Value} {bb b k : Nat} {q : α} (hst : St S M w) (hx : evF l x = .pointer (some ⟨b, 0, none⟩)) (hk : M[k]? = some (.box b c B))
    (hy : evF l y = vOf (Rep.agg α) cl) (hq : Rep.R S cl q) (hT : Ty P T (Rep.agg α) (Rep.z α) zero bb) (hag : Rep.agg α = true) (hc : c.length = Rep.z α)
    (h : ∀ w', St S (M.set k (.box b cl B)) w' → wpList P ops Q rest ⟨l.toArray, D⟩ w') :
    wpList P ops Q (⟨none, .store T x y, ty, pos, af, none⟩ :: rest) ⟨l.toArray, D⟩ w := by
  have e : (vOf (Rep.agg α) cl).cells.toList = cl := by rw [hag]; rfl
  refine s_store hst hx k hk hT hy e (Rep.len hq) (List.all_eq_true.2 (Rep.one hq)) (by omega) fun w' h' => h w' ?_
  rw [List.take_zero, List.nil_append, List.drop_of_length_le (by omega), List.append_nil] at h'
  exact h'

theorem s_stB {T F : TypeId} {x y : Operand} {zero : List Value} {bb : Nat} {v p : Value} {j k n : Nat} {xs : List Bool} {u : Bool} (hst : St S M w) (hx : evF l x = p) (hp : PtO v p (j * 1)) (hk : M[k]? = some (.sl v F 1 n (cF boolC xs)))
    (hT : Ty P T false 1 zero bb) (hy : evF l y = .bool u) (hl : j < xs.length)
    (h : ∀ w', St S (M.set k (.sl v F 1 n (cF boolC (xs.set j u)))) w' → wpList P ops Q rest ⟨l.toArray, D⟩ w') :
    wpList P ops Q (⟨none, .store T x y, ty, pos, af, none⟩ :: rest) ⟨l.toArray, D⟩ w :=
  s_store_own hst hx hp hk hT hy (cs := boolC u) rfl rfl rfl (by rw [cF_len (f := boolC) (z := 1) (fun _ => rfl)]; omega) fun w' h' => h w' (by rw [cF_set (f := boolC) (z := 1) (fun _ => rfl) xs j hl] at h'; exact h')

theorem s_stI {T F : TypeId} {x y : Operand} {zero : List Value} {bb : Nat} {v p : Value} {j k n : Nat} {xs : List Int} {u : Int} (hst : St S M w) (hx : evF l x = p) (hp : PtO v p (j * 1)) (hk : M[k]? = some (.sl v F 1 n (cF intC xs)))
    (hT : Ty P T false 1 zero bb) (hy : evF l y = .int .i64 u) (hl : j < xs.length)
    (h : ∀ w', St S (M.set k (.sl v F 1 n (cF intC (xs.set j u)))) w' → wpList P ops Q rest ⟨l.toArray, D⟩ w') :
    wpList P ops Q (⟨none, .store T x y, ty, pos, af, none⟩ :: rest) ⟨l.toArray, D⟩ w :=
  s_store_own hst hx hp hk hT hy (cs := intC u) rfl rfl rfl (by rw [cF_len (f := intC) (z := 1) (fun _ => rfl)]; omega) fun w' h' => h w' (by rw [cF_set (f := intC) (z := 1) (fun _ => rfl) xs j hl] at h'; exact h')

theorem s_st2 {T F : TypeId} {x y : Operand} {zero : List Value} {bb : Nat} {v p : Value} {j k n : Nat} {xs : List (Int × Int)} {a b : Int} (hst : St S M w) (hx : evF l x = p) (hp : PtO v p (j * 2)) (hk : M[k]? = some (.sl v F 2 n (cF pairC xs)))
    (hT : Ty P T true 2 zero bb) (hy : evF l y = .agg #[.int .i64 a, .int .i64 b]) (hl : j < xs.length)
    (h : ∀ w', St S (M.set k (.sl v F 2 n (cF pairC (xs.set j (a, b))))) w' → wpList P ops Q rest ⟨l.toArray, D⟩ w') :
    wpList P ops Q (⟨none, .store T x y, ty, pos, af, none⟩ :: rest) ⟨l.toArray, D⟩ w :=
  s_store_own hst hx hp hk hT hy (cs := pairC (a, b)) rfl rfl rfl (by rw [cF_len (f := pairC) (z := 2) (fun _ => rfl)]; omega) fun w' h' => h w' (by rw [cF_set (f := pairC) (z := 2) (fun _ => rfl) xs j hl] at h'; exact h')
end
end Go.Sl
