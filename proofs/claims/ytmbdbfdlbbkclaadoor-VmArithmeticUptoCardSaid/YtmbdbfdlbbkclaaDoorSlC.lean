/- Rules of a small separation logic over the model's worlds. General over the program. -/
import Derived.Test.YtmbdbfdlbbkclaaDoorSlB

namespace Go.Sl
set_option linter.unusedSimpArgs false
set_option linter.unusedVariables false
open Go.RowKit
variable {P : Program}
section
variable {ops : Array Oper} {rest : List Oper} {Q : Exit → Act → World → Prop} {l : List Value} {D : List Deferred} {w : World} {d : Tmp} {ty : TypeId} {pos : String} {af : Array Edge} {S : Snap} {M : List Chunk}
variable {α : Type} [Rep α]

/-! ### Slicing -/
/-- A bound of a slice expression: absent (then dflt), or a number. -/
def Bd (o : Option Value) (dflt n : Nat) : Prop := (o = none ∧ n = dflt) ∨ ∃ k, o = some (.int k (n : Int))

theorem Bd.run {o : Option Value} {dflt n y : Nat} {c : BoundsCode} (h : Bd o dflt n) (hy : n ≤ y) :
    (match o with | some v => Instr.sliceBound v y c | none => (pure dflt : Sem Nat)).run P w = .ok n w := by
  rcases h with ⟨rfl, rfl⟩ | ⟨k, rfl⟩
  · rfl
  · have : (n : Int) ≤ y := by omega
    simp [Instr.sliceBound, asIntOf, this]

theorem run_bounds {lo hi mx : Option Value} {len cap a b m : Nat} (hl : Bd lo 0 a) (hh : Bd hi len b) (hm : Bd mx cap m) (h1 : a ≤ b) (h2 : b ≤ m) (h3 : m ≤ cap) (hx : mx.isSome = true → hi.isSome = true) (sl : Bool) :
    (Instr.sliceBounds sl len cap lo hi mx).run P w = .ok (a, b, m) w := by
  rcases hm with ⟨rfl, rfl⟩ | ⟨km, rfl⟩
  · rcases hh with ⟨rfl, rfl⟩ | ⟨kh, rfl⟩
    · rcases hl with ⟨rfl, rfl⟩ | ⟨kl, rfl⟩ <;> simp [Instr.sliceBounds, Instr.sliceBound, asIntOf, h1]
    · rcases hl with ⟨rfl, rfl⟩ | ⟨kl, rfl⟩ <;> simp [Instr.sliceBounds, Instr.sliceBound, asIntOf, h1, h2]
  · rcases hh with ⟨rfl, rfl⟩ | ⟨kh, rfl⟩
    · simp at hx
    · rcases hl with ⟨rfl, rfl⟩ | ⟨kl, rfl⟩ <;> simp [Instr.sliceBounds, Instr.sliceBound, asIntOf, h1, h2, h3]

theorem run_sliceAt {T E : TypeId} {agg : Bool} {z : Nat} {zero : List Value} {bb : Nat} (hT : SlT P T E) (hE : Ty P E agg z zero bb) {lo hi mx : Option Value} {ad : Option Addr} {len cap a b m : Nat} (hl : Bd lo 0 a) (hh : Bd hi len b) (hm : Bd mx cap m)
    (h1 : a ≤ b) (h2 : b ≤ m) (h3 : m ≤ cap) (hx : mx.isSome = true → hi.isSome = true) :
    (Instr.sliceAt T (.slice ad len cap) lo hi mx).run P w = .ok (.slice (if m = a then ad else ad.map (·.add (a * z))) (b - a) (m - a)) w := by
  simp [Instr.sliceAt, run_underlying hT.u, Instr.slice, run_bounds hl hh hm h1 h2 h3 hx, hE.run_sizeOf]

/-- The same as data: a part of the list. -/
theorem RSl.sub {v : Value} {xs : List α} {ad : Option Addr} {len cap : Nat} (hv : RSl S v xs) (e : v = .slice ad len cap) (a b m : Nat) (h1 : a ≤ b) (h2 : b ≤ xs.length) (h3 : b ≤ m) (h4 : m ≤ cap) :
    RSl S (.slice (if m = a then ad else ad.map (·.add (a * Rep.z α))) (b - a) (m - a)) ((xs.drop a).take (b - a)) := by
  subst e
  rcases hv with ⟨ad', cap', e, rfl, hcm⟩ | ⟨b0, o, cap0, c, T, fz, e, hb, hc, hm, hRL⟩
  · obtain ⟨rfl, rfl, rfl⟩ : ad = ad' ∧ len = 0 ∧ cap = cap' := by simpa using e
    left
    simp at h2
    subst h2
    have ha : a = 0 := by omega
    subst ha
    exact ⟨_, m, rfl, by simp, by omega⟩
  · obtain ⟨rfl, rfl, rfl⟩ : ad = some ⟨b0, o, none⟩ ∧ len = xs.length ∧ cap = cap0 := by simpa using e
    have hlen : ((xs.drop a).take (b - a)).length = b - a := by simp; omega
    have hsub := hRL.sub a (b - a) (by omega)
    rw [List.drop_take, List.take_take, List.drop_drop] at hsub
    have hle : (b - a) * Rep.z α ≤ xs.length * Rep.z α - a * Rep.z α := by rw [← Nat.sub_mul]; exact Nat.mul_le_mul_right _ (by omega)
    rw [Nat.min_eq_left hle] at hsub
    right
    by_cases hma : m = a
    · have hba : b - a = 0 := by omega
      refine ⟨b0, o, m - a, c, T, fz, ?_, hb, by rw [hlen]; omega, by omega, ?_⟩
      · rw [if_pos hma, hlen]
      · rw [hlen, hba, Nat.zero_mul, List.take_zero]
        rw [hba, Nat.zero_mul, List.take_zero] at hsub
        exact hsub
    · refine ⟨b0, o + a * Rep.z α, m - a, c, T, fz, ?_, hb, by rw [hlen]; omega, by omega, ?_⟩
      · rw [if_neg hma, hlen, Option.map_some, Addr.add_mid]
      · rw [hlen]; exact hsub

theorem RSl.form {v : Value} {xs : List α} (hv : RSl S v xs) : ∃ ad cap, v = .slice ad xs.length cap ∧ xs.length ≤ cap ∧ cap ≤ maxLen := by
  rcases hv with ⟨ad, cap, rfl, rfl, hcm⟩ | ⟨b0, o, cap0, c, T, fz, rfl, hb, hc, hm, hRL⟩
  · exact ⟨ad, cap, rfl, Nat.zero_le _, hcm⟩
  · exact ⟨_, _, rfl, hc, hm⟩

/-- 'x[lo:hi]', 'x[lo:hi:mx]' of data. mx, if there, is at most the length. -/
theorem s_slice {T E : TypeId} {x : Operand} {lo hi mx : Option Operand} {agg : Bool} {zero : List Value} {bb : Nat} {v : Value} {xs : List α} {a b : Nat} (hx : evF l x = v) (hv : RSl S v xs) (hT : SlT P T E) (hE : Ty P E agg (Rep.z α) zero bb)
    (hl : Bd (lo.map (evF l)) 0 a) (hh : Bd (hi.map (evF l)) xs.length b) (hm : mx = none ∨ (∃ k m, mx.map (evF l) = some (.int k (m : Nat)) ∧ b ≤ m ∧ m ≤ xs.length ∧ hi.isSome = true)) (h1 : a ≤ b) (h2 : b ≤ xs.length)
    (h : ∀ v', RSl S v' ((xs.drop a).take (b - a)) → wpList P ops Q rest ⟨(l.set d v').toArray, D⟩ w) :
    wpList P ops Q (⟨some d, .slice T x lo hi mx, ty, pos, af, none⟩ :: rest) ⟨l.toArray, D⟩ w := by
  obtain ⟨ad, cap, rfl, hc, _⟩ := hv.form
  rcases hm with rfl | ⟨k, m, hmx, hbm, hml, his⟩
  · refine step_value (w' := w) ?_ (h _ (hv.sub rfl a b cap h1 h2 (by omega) (Nat.le_refl _)))
    simp only [execOp, hx, Sem.run_bind]
    rw [run_sliceAt hT hE hl hh (mx := (none : Option Operand).map (evF l)) (.inl ⟨rfl, rfl⟩) h1 (by omega) (Nat.le_refl _) (by simp)]
    rfl
  · refine step_value (w' := w) ?_ (h _ (hv.sub rfl a b m h1 h2 hbm (by omega)))
    simp only [execOp, hx, Sem.run_bind]
    rw [run_sliceAt hT hE hl hh (m := m) (.inr ⟨k, hmx⟩) h1 hbm (by omega) (by intro _; simpa using his)]
    rfl

/-! ### A slice literal, a conversion, make -/
def partsOf (l : List Value) (parts : List (Nat × Operand)) : List Value := (parts.map fun p => (evF l p.2).cells.toList).flatten

theorem take_at {A B : List Value} {u : Value} {k : Nat} (h : A.length = k) : (A ++ u :: B).take (k + 1) = A ++ [u] := by
  subst h
  rw [List.take_append, List.take_of_length_le (by omega), show A.length + 1 - A.length = 1 from by omega]
  rfl
theorem drop_at {A B : List Value} {u : Value} {k n : Nat} (h : A.length = k) : (A ++ u :: B).drop (k + 1 + n) = B.drop n := by
  subst h
  rw [List.drop_append, List.drop_of_length_le (by omega), show A.length + 1 + n - A.length = n + 1 from by omega]
  rfl

theorem fill_all {z : Nat} : ∀ (vs : List Value) (i : Nat) (cells : List Value), (∀ v ∈ vs, v.cells.size = z) → i * z + vs.length * z = cells.length →
    Instr.fill (fun j => some (j * z, z)) cells.toArray (vs.zipIdx i |>.map fun p => (p.2, p.1)) = some (cells.take (i * z) ++ (vs.map (·.cells.toList)).flatten).toArray
  | [], i, cells, _, hl => by
    simp at hl
    simp [Instr.fill, hl]
  | v :: r, i, cells, h, hl => by
    have hv := h v (.head _)
    simp only [List.length_cons, Nat.succ_mul] at hl
    have hbig : ¬ (i * z + v.cells.size > cells.length) := by omega
    have put : ∀ (vs : List Value) (j : Nat) (c : Array Value), i * z + j + vs.length ≤ c.size → (vs.zipIdx j).foldl (fun cs p => cs.setIfInBounds (i * z + p.2) p.1) c = (c.toList.take (i * z + j) ++ vs ++ c.toList.drop (i * z + j + vs.length)).toArray := by
      intro vs
      induction vs with
      | nil => intro j c _; simp
      | cons u us ih =>
        intro j c hc
        simp only [List.length_cons] at hc
        rw [List.zipIdx_cons, List.foldl_cons, ih (j + 1) _ (by simp; omega)]
        have hlt : i * z + j < c.toList.length := by simp; omega
        congr 1
        simp only [Array.toList_setIfInBounds]
        rw [List.set_eq_take_append_cons_drop, if_pos hlt]
        have hl2 : (c.toList.take (i * z + j)).length = i * z + j := by simp; omega
        rw [show i * z + (j + 1) = i * z + j + 1 from by omega, take_at hl2, drop_at hl2, List.drop_drop]
        simp only [List.append_assoc, List.singleton_append]
        rw [show i * z + j + 1 + us.length = i * z + j + (u :: us).length from by simp; omega]
    simp only [List.zipIdx_cons, List.map_cons, Instr.fill, hv, ne_eq, not_true_eq_false, decide_false, Bool.false_or, List.size_toArray]
    rw [if_neg (by simpa [hv] using hbig)]
    have hz : v.cells.zipIdx.foldl (fun cs (p : Value × Nat) => cs.setIfInBounds (i * z + p.2) p.1) cells.toArray = (cells.take (i * z) ++ v.cells.toList ++ cells.drop (i * z + z)).toArray := by
      have := put v.cells.toList 0 cells.toArray (by simp [hv]; omega)
      rw [← Array.foldl_toList]
      simpa [hv] using this
    have hz' : v.cells.zipIdx.foldl (fun cs x => match x with | (c, j) => cs.setIfInBounds (i * z + j) c) cells.toArray = (cells.take (i * z) ++ v.cells.toList ++ cells.drop (i * z + z)).toArray := hz
    have hlen : (cells.take (i * z) ++ v.cells.toList).length = (i + 1) * z := by simp [hv, Nat.succ_mul]; omega
    rw [hz', fill_all r (i + 1) _ (fun u hu => h u (.tail _ hu)) (by simp [hv, Nat.succ_mul]; omega)]
    congr 2
    rw [← hlen, List.take_left]
    simp

/-- A slice literal whose places are all given, in order. -/
theorem s_lit {T E : TypeId} {n : Nat} {parts : Array (Nat × Operand)} {agg : Bool} {z : Nat} {zero : List Value} {bb : Nat} {vs cs : List Value} (hst : St S M w) (hT : SlT P T E) (hE : Ty P E agg z zero bb)
    (hp : parts.toList.map (fun p => (p.1, evF l p.2)) = (vs.zipIdx.map fun p => (p.2, p.1))) (hn : vs.length = n) (hv : ∀ v ∈ vs, v.cells.size = z) (hc : (vs.map (·.cells.toList)).flatten = cs) (hs : n * z ≤ 16777216) (hz : 0 < z)
    (h : ∀ v w', St S (.sl v E z n cs :: M) w' → wpList P ops Q rest ⟨(l.set d v).toArray, D⟩ w') :
    wpList P ops Q (⟨some d, .buildSlice T n parts, ty, pos, af, none⟩ :: rest) ⟨l.toArray, D⟩ w := by
  subst hc
  have hlen : (vs.map (·.cells.toList)).flatten.length = n * z := by
    rw [← hn]
    clear hp hn hs h
    induction vs with
    | nil => simp
    | cons v r ih => simp [ih (fun u hu => hv u (.tail _ hu)), hv v (.head _), Nat.succ_mul, Nat.add_comm]
  have hzero : ∀ (q : Array Value), ((Array.range (n * z)).map (q[· % q.size]!)).size = n * z := fun q => by simp
  refine step_value (v := .slice (some ⟨w.heap.size, 0, none⟩) n n) (w' := w.alloc (.cells (vs.map (·.cells.toList)).flatten.toArray E)) ?_ (h _ _ (hst.alloc_sl (fz := (0, 0)) hlen (fun j _ => by simp) (Nat.le_refl _) ?_ (by simpa using Nat.le_of_eq hlen.symm) ?_))
  · have hfill := fun q : Array Value => fill_all (z := z) vs 0 ((Array.range (n * z)).map (q[· % q.size]!)).toList hv (by simp [hn])
    simp only [Nat.zero_mul, List.take_zero, List.nil_append, Array.toArray_toList] at hfill
    have hparts : (parts.map fun (i, x) => (i, evF l x)).toList = (vs.zipIdx.map fun p => (p.2, p.1)) := by
      rw [← hp]; simp
    have h24 : ¬ (n * z > 2 ^ 24) := by omega
    simp only [execOp, Instr.buildSlice, Sem.run_bind, run_underlying hT.u, Result.andThen_ok, hE.run_sizeOf, h24, if_false, Sem.run_pure, hparts]
    by_cases h0 : n * z = 0
    · have hq := hfill #[]
      simp only [h0] at hq
      simp only [h0, if_true, Sem.run_pure, Result.andThen_ok, hq, Sem.run_bind]
      rfl
    · have hq := hfill (vOf agg zero).cells
      simp only [h0, if_false, Sem.run_bind, hE.run_zero, Sem.run_pure, Result.andThen_ok, hq]
      rfl
  · have := Nat.le_mul_of_pos_right n hz
    simp only [maxLen]; omega
  · show List.take (n * z) (List.toArray _).toList = _
    rw [List.toList_toArray, List.take_of_length_le (by rw [hlen]; exact Nat.le_refl _)]

/-- '[]byte(s)'. -/
theorem s_bytes {src dst E : TypeId} {x : Operand} {b : List UInt8} {u : TypeDesc} (hst : St S M w) (hx : evF l x = .string ⟨b.toArray⟩) (hs : P.underlying src = some u) (hd : SlT P dst E) (he : P.underlying E = some (.int .u8)) (hb : b.length ≤ 140737488355328)
    (h : ∀ v w', St S (.sl v E 1 b.length (u8s b) :: M) w' → wpList P ops Q rest ⟨(l.set d v).toArray, D⟩ w') :
    wpList P ops Q (⟨some d, .convert src dst x, ty, pos, af, none⟩ :: rest) ⟨l.toArray, D⟩ w := by
  have hsz : (⟨b.toArray⟩ : ByteArray).size = b.length := by simp [ByteArray.size]
  have hcz : (Lib.bytesCells w E ⟨b.toArray⟩).toList = u8s b ++ List.replicate (grownCap w b.length 0 E - b.length) (.int .u8 0) := by
    simp [Lib.bytesCells, u8s, ByteArray.size]
  have hcl : (Lib.bytesCells w E ⟨b.toArray⟩).size = b.length + (grownCap w b.length 0 E - b.length) := by
    rw [← Array.length_toList, hcz]; simp [u8s]
  have hge := grownCap_ge w b.length 0 E
  refine step_value (v := .slice (some ⟨w.heap.size, 0, none⟩) b.length (grownCap w b.length 0 E)) (w' := Lib.bytesWorld w E ⟨b.toArray⟩) ?_ (h _ _ ?_)
  · have := Lib.run_convert_string_bytes (P := P) w src dst E ⟨b.toArray⟩ hs hd.u he
    rw [hsz] at this
    simp [execOp, hx, this]
  · refine hst.new_sl rfl rfl rfl (fun k hk => Lib.bytesWorld_at_old w E _ k hk) (Lib.bytesWorld_at_new w E _) (by simp [u8s]) (fun j hj => by simp only []; omega) hge (grownCap_le_maxLen w _ _ E (by simp only [maxLen]; omega)) (by rw [hcl]; omega) ?_
    have hu : (u8s b).length = b.length := by simp [u8s]
    rw [hcz, Nat.mul_one, ← hu, List.take_left]

theorem foldl_push (b : List UInt8) : ∀ s : ByteArray, (b.map fun x => (x.toNat : Int)).foldl (fun r n => r.push (UInt8.ofNat n.toNat)) s = ⟨s.data ++ b.toArray⟩ := by
  induction b with
  | nil => intro s; simp
  | cons x r ih =>
    intro s
    rw [List.map_cons, List.foldl_cons, ih]
    simp [ByteArray.push]

theorem run_string {src dst E : TypeId} {ad : Option Addr} {cap : Nat} {b : List UInt8} (hs : SlT P src E) (he : P.underlying E = some (.int .u8)) (hd : P.underlying dst = some .string)
    (hc : b = [] ∨ ∃ bl o, ad = some ⟨bl, o, none⟩ ∧ w.rangeAt bl o (u8s b)) :
    (convert src dst (.slice ad b.length cap)).run P w = .ok (.string ⟨b.toArray⟩) w := by
  rw [run_convert_bytes_string w src dst E ad b.length cap hs.u he hd]
  rcases hc with rfl | ⟨bl, o, rfl, hr⟩
  · cases ad with
    | none => rfl
    | some ad => rfl
  · have hl : (loadCells ⟨bl, o, none⟩ b.length).run P w = .ok ((b.map fun x => (x.toNat : Int)).map (Value.int .u8)).toArray w := by
      have := run_loadCells_list (P := P) w ⟨bl, o, none⟩ (u8s b) (fun j v hv => by rw [Addr.add_mid]; exact hr j v hv)
      simpa [u8s, Function.comp_def] using this
    rw [run_bytesToString w _ _ cap _ hl, foldl_push]
    simp

/-- 'string(b)' of data. -/
theorem s_string {src dst E : TypeId} {x : Operand} {v : Value} {b : List UInt8} (hst : St S M w) (hx : evF l x = v) (hv : RSl S v b) (hs : SlT P src E) (he : P.underlying E = some (.int .u8)) (hd : P.underlying dst = some .string)
    (h : wpList P ops Q rest ⟨(l.set d (.string ⟨b.toArray⟩)).toArray, D⟩ w) :
    wpList P ops Q (⟨some d, .convert src dst x, ty, pos, af, none⟩ :: rest) ⟨l.toArray, D⟩ w := by
  refine step_value (w' := w) ?_ h
  rcases hv with ⟨ad, cap, rfl, rfl, _⟩ | ⟨b0, o, cap0, c, T, fz, rfl, hb, hc, hm, hRL⟩
  · have := run_string (P := P) (w := w) (ad := ad) (cap := cap) (b := []) hs he hd (.inl rfl)
    simp at this
    simp [execOp, hx, this]
  · have := run_string (P := P) (w := w) (ad := some ⟨b0, o, none⟩) (cap := cap0) (b := b) hs he hd (.inr ⟨b0, o, rfl, by rw [← hRL.eq_u8s]; exact range_of (hst.has _ _ hb)⟩)
    simp [execOp, hx, this]

/-- 'string(b)' of an own slice. -/
theorem s_string_own {src dst E F : TypeId} {x : Operand} {v : Value} {b : List UInt8} {k n : Nat} (hst : St S M w) (hx : evF l x = v) (hk : M[k]? = some (.sl v F 1 n (u8s b))) (hs : SlT P src E) (he : P.underlying E = some (.int .u8)) (hd : P.underlying dst = some .string)
    (h : wpList P ops Q rest ⟨(l.set d (.string ⟨b.toArray⟩)).toArray, D⟩ w) :
    wpList P ops Q (⟨some d, .convert src dst x, ty, pos, af, none⟩ :: rest) ⟨l.toArray, D⟩ w := by
  refine step_value (w' := w) ?_ h
  have h0 := hst.get hk
  have hn : n = b.length := by have := h0.1; simp [u8s] at this; exact this.symm
  subst hn
  rcases h0.2 with ⟨rfl, hb⟩ | ⟨g, cap, cur, fz, rfl, hg, hfz, hnc, hcm, hcs, htk⟩
  · obtain rfl : b = [] := List.eq_nil_of_length_eq_zero hb
    have := run_string (P := P) (w := w) (ad := none) (cap := 0) (b := []) hs he hd (.inl rfl)
    simp at this
    simp [execOp, hx, this]
  · have := run_string (P := P) (w := w) (ad := some ⟨g, 0, none⟩) (cap := cap) (b := b) hs he hd (.inr ⟨g, 0, rfl, by rw [← htk]; have := range_of (o := 0) (n := b.length * 1) hg; simpa using this⟩)
    simp [execOp, hx, this]

/-- 'make([]T, n)'. -/
theorem s_make {T E : TypeId} {x y : Operand} {agg : Bool} {z : Nat} {zero : List Value} {bb : Nat} {k k' : IntKind} {n : Nat} (hst : St S M w) (hT : SlT P T E) (hE : Ty P E agg z zero bb) (hx : evF l x = .int k (n : Int)) (hy : evF l y = .int k' (n : Int)) (hb : n * bb ≤ 140737488355328) (hm : n ≤ 140737488355328)
    (h : ∀ v w', St S (.sl v E z n (List.replicate n zero).flatten :: M) w' → wpList P ops Q rest ⟨(l.set d v).toArray, D⟩ w') :
    wpList P ops Q (⟨some d, .makeSlice T x y, ty, pos, af, none⟩ :: rest) ⟨l.toArray, D⟩ w := by
  obtain ⟨i, hi, hiz, his, hib⟩ := hE.run_bytes
  have hbn : (i.bytes : Int) * (n : Int) ≤ 281474976710656 := by
    have : ((bb * n : Nat) : Int) ≤ 281474976710656 := by rw [Nat.mul_comm]; omega
    rw [hib, ← Int.natCast_mul]; exact this
  have hr := run_make (P := P) w T E i _ hT.u hi hiz k k' n n (by omega) (Int.le_refl _) hbn (by omega)
  have hzero : (vOf agg zero).cells = zero.toArray := by apply Array.ext'; simpa using hE.cells_
  have hlen : (List.replicate n zero).flatten.length = n * z := by simp [hE.len_]
  refine step_value (v := .slice (some ⟨w.heap.size, 0, none⟩) n n) (w' := w.alloc (.cells (madeCells (vOf agg zero).cells (n * i.size)) E)) ?_ (h _ _ (hst.alloc_sl (fz := (0, 0)) hlen (fun j _ => by simp) (Nat.le_refl _) (by simp only [maxLen]; omega) (by simp [size_madeCells, his]) ?_))
  · simp only [Int.toNat_natCast] at hr
    simp [execOp, hx, hy, hr]
  · rw [his, hzero]
    apply List.ext_getElem?
    intro j
    rw [List.getElem?_take]
    split
    · rename_i hj
      have hz : 0 < z := by
        rcases Nat.eq_zero_or_pos z with e | e
        · subst e; simp at hj
        · exact e
      have e1 : j = (j / z) * z + j % z := (Nat.div_add_mod' j z).symm
      have hq : j / z < n := by rw [Nat.div_lt_iff_lt_mul hz]; exact hj
      have hr' := Nat.mod_lt j hz
      have : ∀ m, (j / z) < m → ((List.replicate m zero).flatten)[j]? = zero[j % z]? := by
        intro m hm'
        have hsplit : m = (j / z) + (1 + (m - j / z - 1)) := by omega
        rw [hsplit, ← List.replicate_append_replicate, List.flatten_append, List.getElem?_append_right (by simp [hE.len_]; exact Nat.div_mul_le_self j z)]
        rw [← List.replicate_append_replicate, List.flatten_append]
        have el : (List.replicate (j / z) zero).flatten.length = j / z * z := by simp [hE.len_]
        rw [el, show j - j / z * z = j % z from by omega, List.getElem?_append_left (by simp [hE.len_, hr'])]
        simp
      rw [this n hq]
      simp [madeCells, hj, hE.len_]
      rw [List.getElem?_eq_getElem (by rw [hE.len_]; exact hr')]
      rfl
    · rename_i hj
      rw [List.getElem?_eq_none (by rw [hlen]; omega)]
end
end Go.Sl
