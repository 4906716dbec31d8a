/- Structs whose cells are data: literals, fields stored, whole boxes; lists of byte slices made. General over the program. -/
import Derived.Test.YtmbdbfdlbbkclaaDoorSlN
import Derived.Test.YtmbdbfdlbbkclaaDoorSlO
import Derived.Test.YtmbdbfdlbbkclaaDoorSlS
import Derived.Test.YtmbdbfdlbbkclaaDoorSlX
namespace Go.Sl
set_option linter.unusedSimpArgs false
set_option linter.unusedVariables false
open Go.RowKit
variable {P : Program} {S : Snap} {M : List Chunk} {l : List Value}

theorem put_fold (off : Nat) : ∀ (vs : List Value) (j : Nat) (c : Array Value), off + j + vs.length ≤ c.size → (vs.zipIdx j).foldl (fun cs p => cs.setIfInBounds (off + p.2) p.1) c = (c.toList.take (off + j) ++ vs ++ c.toList.drop (off + j + vs.length)).toArray
  | [], j, c, _ => by simp
  | u :: us, j, c, hc => by
    simp only [List.length_cons] at hc
    rw [List.zipIdx_cons, List.foldl_cons, put_fold off us (j + 1) _ (by simp; omega)]
    have hlt : off + j < c.toList.length := by simp; omega
    congr 1
    simp only [Array.toList_setIfInBounds]
    rw [List.set_eq_take_append_cons_drop, if_pos hlt]
    have hl2 : (c.toList.take (off + j)).length = off + j := by simp; omega
    rw [show off + (j + 1) = off + j + 1 from by omega, take_at hl2, drop_at hl2, List.drop_drop]
    simp only [List.append_assoc, List.singleton_append]
    rw [show off + j + 1 + us.length = off + j + (u :: us).length from by simp; omega]
theorem fill_step {place : Nat → Option (Nat × Nat)} {cells : List Value} {i off size : Nat} {v : Value} {r : List (Nat × Value)} (hp : place i = some (off, size)) (hs : v.cells.toList.length = size) (hb : off + size ≤ cells.length) :
    Instr.fill place cells.toArray ((i, v) :: r) = Instr.fill place (cells.take off ++ v.cells.toList ++ cells.drop (off + size)).toArray r := by
  have hs' : v.cells.size = size := by simpa using hs
  have hbig : ¬ (off + size > cells.length) := by omega
  rw [Instr.fill, hp]
  simp only [hs', ne_eq, not_true_eq_false, decide_false, Bool.false_or, List.size_toArray]
  rw [if_neg (by simpa using hbig)]
  have := put_fold off v.cells.toList 0 cells.toArray (by simp [hs']; omega)
  have hz : v.cells.zipIdx.foldl (fun cs x => match x with | (c, j) => cs.setIfInBounds (off + j) c) cells.toArray = (cells.take off ++ v.cells.toList ++ cells.drop (off + size)).toArray := by
    rw [← Array.foldl_toList]
    simpa [hs'] using this
  rw [hz]

/-- Fields put one after the other. -/
inductive Puts (S : Snap) (places : List (Nat × Nat)) {α : Type} [Rep α] : List (Nat × Value) → α → α → Prop
  | nil {x : α} : Puts S places [] x x
  | cons {k off : Nat} {β : Type} [Rep β] {get : α → β} {put : α → β → α} [HasF α k β off get put] {v : Value} {y : β} {x x' : α} {r : List (Nat × Value)} (hv : Rep.R S v.cells.toList y) (hp : places[k]? = some (off, Rep.z β)) (h : Puts S places r (put x y) x') : Puts S places ((k, v) :: r) x x'
theorem fill_puts {α : Type} [Rep α] {places : List (Nat × Nat)} {parts : List (Nat × Value)} {x x' : α} (h : Puts S places parts x x') : ∀ cells, Rep.R S cells x → ∃ cs, Instr.fill (fun i => places.toArray[i]?) cells.toArray parts = some cs.toArray ∧ Rep.R S cs x' := by
  induction h with
  | nil => exact fun cells hc => ⟨cells, rfl, hc⟩
  | cons hv hp h ih =>
    rename_i k off β _ get put i v y x x' r
    intro cells hc
    have hb := i.le
    have hl := Rep.len hc
    rw [fill_step (off := off) (size := Rep.z β) (by simpa using hp) (Rep.len hv) (by omega)]
    exact ih _ (i.wr hc hv)

section
variable {α : Type} [Rep α] {T : TypeId} {places : List (Nat × Nat)} {z : Nat} {zero : List Value} {bb : Nat} {x0 x' : α} {ps : List (Nat × Operand)}
/-- A struct literal. -/
theorem qt_buildP (hT : StructT P T places) (hZ : Ty P T true z zero bb) (h0 : Rep.R S zero x0) (hp : Puts S places (ps.map fun q => (q.1, evF l q.2)) x0 x') : ∃ v, (∃ cs, v = .agg cs.toArray ∧ Rep.R S cs x') ∧ Qt P l (.build T ps.toArray) S M v := by
  obtain ⟨cs, hf, hR⟩ := fill_puts hp zero h0
  exact ⟨_, ⟨cs, rfl, hR⟩, qt_buildS hT hZ hf⟩
theorem qt_buildF {cells : α → List Value} (hF : FlatC α cells) (hT : StructT P T places) (hZ : Ty P T true z zero bb) (h0 : Rep.R S zero x0) (hp : Puts S places (ps.map fun q => (q.1, evF l q.2)) x0 x') : Qt P l (.build T ps.toArray) S M (.agg (cells x').toArray) := by
  obtain ⟨cs, hf, hR⟩ := fill_puts hp zero h0
  rw [← hF.flat hR]
  exact qt_buildS hT hZ hf
end
section
variable {α β : Type} [Rep α] [Rep β]
instance flatProd {f : α → List Value} {g : β → List Value} [hf : FlatC α f] [hg : FlatC β g] : FlatC (α × β) (fun p => f p.1 ++ g p.2) := ⟨fun {S cs x} h => by
  rw [← hf.flat h.2.1, ← hg.flat h.2.2, List.take_append_drop]⟩
instance flatUnit : FlatC Unit (fun _ => []) := ⟨fun h => h⟩
instance flatInt : FlatC Int (fun n => [.int .i64 n]) := ⟨fun h => h.1⟩
instance flatBool : FlatC Bool (fun b => [.bool b]) := ⟨fun h => h⟩
instance flatU8 : FlatC UInt8 (fun b => [.int .u8 (b.toNat : Int)]) := ⟨fun h => h⟩

variable {ops : Array Oper} {rest : List Oper} {Q : Exit → Act → World → Prop} {D : List Deferred} {w : World} {ty : TypeId} {pos : String} {af : Array Edge} {d : Tmp}
/-- A field of an own box stored, both flat. -/
theorem s_stF {T B : TypeId} {x y : Operand} {agg : Bool} {zero : List Value} {bb b off kf k : Nat} {cells : α → List Value} {get : α → β} {put : α → β → α} {x0 : α} {y0 : β} {cs : List Value} (hst : St S M w) (hF : FlatC α cells) (hx : evF l x = .pointer (some ⟨b, off, none⟩)) (hk : M[k]? = some (.box b (cells x0) B))
    (i : HasF α kf β off get put) (h0 : Rep.R S (cells x0) x0) (hT : Ty P T agg (Rep.z β) zero bb) (hy : evF l y = vOf agg cs) (hR : Rep.R S cs y0) (ha : agg = false → Rep.z β = 1)
    (h : ∀ w', Rep.R S (cells (put x0 y0)) (put x0 y0) → St S (M.set k (.box b (cells (put x0 y0)) B)) w' → wpList P ops Q rest ⟨l.toArray, D⟩ w') :
    wpList P ops Q (⟨none, .store T x y, ty, pos, af, none⟩ :: rest) ⟨l.toArray, D⟩ w := by
  have hl := Rep.len hR
  have hb := i.le
  have hl0 := Rep.len h0
  have h1 : cs.all (·.oneCell') = true := List.all_eq_true.2 (Rep.one hR)
  have hw := i.wr h0 hR
  have hc : (vOf agg cs).cells.toList = cs := by
    cases agg with
    | true => rfl
    | false =>
      have : cs.length = 1 := by rw [hl, ha rfl]
      obtain ⟨v, rfl⟩ := List.length_eq_one_iff.1 this
      have hv : v.oneCell' = true := Rep.one hR v (by simp)
      exact cells_one hv
  refine s_store hst hx k hk hT hy (cs := cs) hc hl h1 (by omega) fun w' hst' => ?_
  rw [hF.flat hw] at hst' hw
  exact h w' hw hst'
/-- A whole own box, flat. -/
theorem qt_loadF {T B : TypeId} {x : Operand} {zero c : List Value} {bb b k : Nat} {x0 : α} (hx : evF l x = .pointer (some ⟨b, 0, none⟩)) (hk : M[k]? = some (.box b c B)) (hR : Rep.R S c x0) (hT : Ty P T true (Rep.z α) zero bb) : Qt P l (.load T x) S M (.agg c.toArray) :=
  qt_loadA hx hk hT (Rep.len hR)
/-- A whole own box stored. -/
theorem s_stW0 {T B : TypeId} {x y : Operand} {zero c cs : List Value} {bb b k : Nat} {x0 : α} (hst : St S M w) (hx : evF l x = .pointer (some ⟨b, 0, none⟩)) (hk : M[k]? = some (.box b c B)) (hT : Ty P T true (Rep.z α) zero bb) (hy : evF l y = .agg cs.toArray) (hR : Rep.R S cs x0) (hc : c.length = Rep.z α)
    (h : ∀ w', St S (M.set k (.box b cs B)) w' → wpList P ops Q rest ⟨l.toArray, D⟩ w') :
    wpList P ops Q (⟨none, .store T x y, ty, pos, af, none⟩ :: rest) ⟨l.toArray, D⟩ w := by
  have hl := Rep.len hR
  refine s_store hst hx k hk hT hy (cs := cs) rfl hl (List.all_eq_true.2 (Rep.one hR)) (by omega) fun w' h' => h w' ?_
  rw [List.take_zero, List.nil_append, List.drop_of_length_le (by omega), List.append_nil] at h'
  exact h'
theorem rv_F {a : Tmp} {T : TypeId} {zero c : List Value} {bb : Nat} {b : Nat} {B : TypeId} {k : Nat} {x0 : α} (hst : St S M w) (hx : nth l a = .pointer (some ⟨b, 0, none⟩)) (hk : M[k]? = some (.box b c B))
    (hT : Ty P T true (Rep.z α) zero bb) (hR : Rep.R S c x0) : RVar P l w (.cell a T) (.agg c.toArray) :=
  rv_cell (cs := c) hst hx k hk hT (by rw [List.drop_zero, List.take_of_length_le (by rw [Rep.len hR]; exact Nat.le_refl _)]) (Rep.len hR)
theorem ret_F {fn : Func} {R : Ending → World → Prop} {a : Tmp} {T : TypeId} {zero c : List Value} {bb : Nat} {b : Nat} {B : TypeId} {k : Nat} {x0 : α} (hr : fn.results = #[.cell a T]) (hst : St S M w) (hx : nth l a = .pointer (some ⟨b, 0, none⟩)) (hk : M[k]? = some (.box b c B))
    (hT : Ty P T true (Rep.z α) zero bb) (hx0 : Rep.R S c x0) (hR : R (.returned (.agg c.toArray)) w) : bodyPost P fn R .ret ⟨l.toArray, []⟩ w :=
  ret_cell hr hst hx k hk hT (cs := c) (by rw [List.drop_zero, List.take_of_length_le (by rw [Rep.len hx0]; exact Nat.le_refl _)]) (Rep.len hx0) hR
end

/-! ### Lists of byte slices -/
inductive Sls (S : Snap) : List Value → List (List UInt8) → Prop
  | nil : Sls S [] []
  | cons {v : Value} {x : List UInt8} {vs : List Value} {xs : List (List UInt8)} (h : RSl S v x) (hs : Sls S vs xs) : Sls S (v :: vs) (x :: xs)
theorem Sls.rl {vs : List Value} {xs : List (List UInt8)} (h : Sls S vs xs) : RL S vs xs ∧ vs.length = xs.length ∧ (∀ v ∈ vs, v.oneCell' = true) := by
  induction h with
  | nil => exact ⟨RL.nil, rfl, by simp⟩
  | @cons v x vs xs hv hs ih =>
    refine ⟨⟨by have h1 := ih.2.1; have hz : Rep.z (List UInt8) = 1 := rfl; rw [hz]; simp [h1], fun i y hy => ?_⟩, by simp [ih.2.1], fun u hu => ?_⟩
    · have hz : Rep.z (List UInt8) = 1 := rfl
      cases i with
      | zero =>
        cases hy
        exact ⟨v, rfl, hv⟩
      | succ i =>
        have := ih.1.2 i y (by simpa using hy)
        rw [hz, Nat.mul_one] at this ⊢
        exact this
    · rcases List.mem_cons.1 hu with rfl | hu
      · exact hv.oneCell
      · exact ih.2.2 u hu
section
variable {ops : Array Oper} {rest : List Oper} {Q : Exit → Act → World → Prop} {D : List Deferred} {w : World} {ty : TypeId} {pos : String} {af : Array Edge} {d : Tmp}
/-- A literal of byte slices, taken as data. -/
theorem s_parts {T E : TypeId} {n : Nat} {parts : Array (Nat × Operand)} {zero : List Value} {bb : Nat} {vs : List Value} {xs : List (List UInt8)} (hst : St S M w) (hs : Sls S vs xs) (hT : SlT P T E) (hE : Ty P E false 1 zero bb)
    (hp : parts.toList.map (fun p => (p.1, evF l p.2)) = (vs.zipIdx.map fun p => (p.2, p.1))) (hn : vs.length = n) (hb : n ≤ 1000)
    (h : ∀ S' u w', S.Le S' → RSl S' u xs → u.oneCell' = true → St S' M w' → wpList P ops Q rest ⟨(l.set d u).toArray, D⟩ w') :
    wpList P ops Q (⟨some d, .buildSlice T n parts, ty, pos, af, none⟩ :: rest) ⟨l.toArray, D⟩ w := by
  obtain ⟨h1, h2, h3⟩ := hs.rl
  have hfl : (vs.map (·.cells.toList)).flatten = vs := by
    clear hs h1 h2 hp hn
    induction vs with
    | nil => rfl
    | cons v r ih => rw [List.map_cons, List.flatten_cons, ih (fun u hu => h3 u (.tail _ hu)), cells_one (h3 v (.head _))]; rfl
  refine s_lit (vs := vs) (cs := vs) hst hT hE hp hn (fun v hv => cells_size1 (h3 v hv)) hfl (by omega) (by omega) fun u w' hst' => ?_
  obtain ⟨S', a, b, c⟩ := St.freeze (α := List UInt8) (T := E) (xs := xs) hst' h1 (by omega)
  exact h S' u w' a c c.oneCell b
end
end Go.Sl
