/- Rules of a small separation logic over the model's worlds. General over the program. -/
import Derived.Test.YtmbdbfdlbbkclaaDoorSlA

namespace Go.Sl
set_option linter.unusedSimpArgs false
set_option linter.unusedVariables false
open Go.RowKit
variable {P : Program}
section
variable {ops : Array Oper} {rest : List Oper} {Q : Exit → Act → World → Prop} {l : List Value} {D : List Deferred} {w : World} {d : Tmp} {ty : TypeId} {pos : String} {af : Array Edge} {S : Snap} {M : List Chunk}
variable {α : Type} [Rep α]

/-! ### Own slices -/
theorem setCells_other (b : Nat) : ∀ (vs : List Value) (o : Nat) (w : World) (k : Nat), k ≠ b → (w.setCells b o vs).heap[k]? = w.heap[k]?
  | [], _, _, _, _ => rfl
  | v :: r, o, w, k, h => by rw [World.setCells, setCells_other b r (o + 1) _ k h, Below.heap_setCell _ _ _ _ h]

theorem setCells_size (b : Nat) : ∀ (vs : List Value) (o : Nat) (w : World), (w.setCells b o vs).heap.size = w.heap.size
  | [], _, _ => rfl
  | v :: r, o, w => by rw [World.setCells, setCells_size b r (o + 1) _]; simp [World.setCell]

theorem setCells_world (b : Nat) : ∀ (vs : List Value) (o : Nat) (w : World), (w.setCells b o vs).os = w.os ∧ (w.setCells b o vs).tape = w.tape ∧ (w.setCells b o vs).output = w.output
  | [], _, _ => ⟨rfl, rfl, rfl⟩
  | v :: r, o, w => by rw [World.setCells]; exact setCells_world b r (o + 1) _

theorem setCells_at (b : Nat) (T : TypeId) (fz : Nat × Nat) : ∀ (vs : List Value) (o : Nat) (w : World) (cur : List Value), w.heap[b]? = some (.cells cur.toArray T fz) → o + vs.length ≤ cur.length →
    (w.setCells b o vs).heap[b]? = some (.cells (cur.take o ++ vs ++ cur.drop (o + vs.length)).toArray T fz)
  | [], o, w, cur, h, _ => by simp only [World.setCells, List.append_nil, List.length_nil, Nat.add_zero, List.take_append_drop]; exact h
  | v :: r, o, w, cur, h, hl => by
    simp only [List.length_cons] at hl
    have h1 : (w.setCell ⟨b, o, none⟩ v).heap[b]? = some (.cells (cur.set o v).toArray T fz) := by
      have hlt := (Array.getElem?_eq_some_iff.1 h).1
      have hv := (Array.getElem?_eq_some_iff.1 h).2
      simp only [World.setCell]
      rw [Array.getElem?_modify, if_pos rfl, h]
      simp
    rw [World.setCells, setCells_at b T fz r (o + 1) _ (cur.set o v) h1 (by simp; omega)]
    congr 3
    have ho : o < cur.length := by omega
    rw [List.set_eq_take_append_cons_drop, if_pos ho]
    have hlt : (cur.take o).length = o := by simp; omega
    rw [show (cur.take o ++ v :: cur.drop (o + 1)).take (o + 1) = cur.take o ++ [v] from by
      rw [List.take_append, hlt, List.take_of_length_le (by omega), show o + 1 - o = 1 from by omega]; simp]
    rw [show (cur.take o ++ v :: cur.drop (o + 1)).drop (o + 1 + r.length) = cur.drop (o + (r.length + 1)) from by
      rw [List.drop_append, hlt, List.drop_of_length_le (by omega), show o + 1 + r.length - o = r.length + 1 from by omega]
      simp only [List.nil_append, List.drop_succ_cons, List.drop_drop]
      congr 1; omega]
    simp

theorem OwnS.nil (w : World) (T : TypeId) (z : Nat) : OwnS w T z (.slice none 0 0) 0 [] := ⟨by simp, .inl ⟨rfl, rfl⟩⟩

theorem St.nil (h : St S M w) (T : TypeId) (z : Nat) : St S (.sl (.slice none 0 0) T z 0 [] :: M) w :=
  ⟨h.os, h.tape, h.output, h.has, fun d hd => by
    rcases List.mem_cons.1 hd with rfl | hd
    · exact OwnS.nil w T z
    · exact h.at_ d hd, fun d hd b hb => by
    rcases List.mem_cons.1 hd with rfl | hd
    · simp [Chunk.own, Value.ownBlock] at hb
    · exact h.out d hd b hb, List.pairwise_cons.2 ⟨fun d _ b hb => by simp [Chunk.own, Value.ownBlock] at hb, h.apart⟩⟩

/-- A new row as an own slice. -/
theorem St.new_sl {n cap z : Nat} {c : List Value} {T : TypeId} {fz : Nat × Nat} {cur : Array Value} {w' : World} (h : St S M w) (hos : w'.os = w.os) (hta : w'.tape = w.tape) (hou : w'.output = w.output)
    (old : ∀ b, b < w.heap.size → w'.heap[b]? = w.heap[b]?) (hnew : w'.heap[w.heap.size]? = some (.cells cur T fz))
    (hc : c.length = n * z) (hfz : ∀ j, j < cur.size → ¬ (fz.1 ≤ j ∧ j < fz.2)) (hn : n ≤ cap) (hm : cap ≤ maxLen)
    (hs : cap * z ≤ cur.size) (ht : cur.toList.take (n * z) = c) : St S (.sl (.slice (some ⟨w.heap.size, 0, none⟩) n cap) T z n c :: M) w' := by
  refine ⟨hos.trans h.os, hta.trans h.tape, hou.trans h.output, fun b o e => ?_, fun d hd => ?_, fun d hd b hb => ?_, List.pairwise_cons.2 ⟨fun d hd b hb hd' => ?_, h.apart⟩⟩
  · have := h.has b o e
    rw [old b (Array.getElem?_eq_some_iff.1 this).1]; exact this
  · rcases List.mem_cons.1 hd with rfl | hd
    · exact ⟨hc, .inr ⟨_, cap, cur, fz, rfl, hnew, hfz, hn, hm, hs, ht⟩⟩
    · exact Chunk.at_of_block (h.at_ d hd) fun b hb => old b (Chunk.lt (h.at_ d hd) b hb)
  · rcases List.mem_cons.1 hd with rfl | hd
    · obtain rfl : w.heap.size = b := by simpa [Chunk.own, Value.ownBlock] using hb
      cases e : S.blk w.heap.size with
      | none => rfl
      | some o => have := (Array.getElem?_eq_some_iff.1 (h.has _ _ e)).1; omega
    · exact h.out d hd b hb
  · obtain rfl : w.heap.size = b := by simpa [Chunk.own, Value.ownBlock] using hb
    have := Chunk.lt (h.at_ d hd) _ hd'; omega

theorem St.alloc_sl {n cap z : Nat} {c : List Value} {T : TypeId} {fz : Nat × Nat} {cur : Array Value} (h : St S M w) (hc : c.length = n * z) (hfz : ∀ j, j < cur.size → ¬ (fz.1 ≤ j ∧ j < fz.2)) (hn : n ≤ cap) (hm : cap ≤ maxLen)
    (hs : cap * z ≤ cur.size) (ht : cur.toList.take (n * z) = c) : St S (.sl (.slice (some ⟨w.heap.size, 0, none⟩) n cap) T z n c :: M) (w.alloc (.cells cur T fz)) :=
  h.new_sl rfl rfl rfl (fun _ hb => Below.heap_alloc _ _ _ hb) (heap_alloc_new w _) hc hfz hn hm hs ht

/-- An own slice is given away: from now on it never changes. -/
theorem St.freeze {v : Value} {T : TypeId} {xs : List α} {c : List Value} {n : Nat} (h : St S (.sl v T (Rep.z α) n c :: M) w) (hc : RL S c xs) (hn : n = xs.length) :
    ∃ S', S.Le S' ∧ St S' M w ∧ RSl S' v xs := by
  subst hn
  have h0 := h.at_ _ (.head _)
  have hap := List.pairwise_cons.1 h.apart
  rcases h0.2 with ⟨rfl, hn⟩ | ⟨g, cap, cur, fz, rfl, hg, hfz, hnc, hm, hs, ht⟩
  · exact ⟨S, Snap.Le.refl S, h.drop, .inl ⟨none, 0, rfl, List.eq_nil_of_length_eq_zero hn, by simp [maxLen]⟩⟩
  · have hn := h.out _ (.head _) g (by simp [Chunk.own, Value.ownBlock])
    have hle : S.Le (S.with g (.cells cur T fz)) := Snap.le_with hn
    refine ⟨S.with g (.cells cur T fz), hle, ⟨h.os, h.tape, h.output, fun k o e => ?_, fun d hd => h.at_ d (.tail _ hd), fun d hd k hk => ?_, hap.2⟩, .inr ⟨g, 0, cap, cur, T, fz, rfl, by simp [Snap.with], hnc, hm, ?_⟩⟩
    · simp only [Snap.with] at e
      split at e
      · rename_i hkb; rw [hkb]; rw [← Option.some.inj e]; exact hg
      · exact h.has k o e
    · simp only [Snap.with]
      split
      · rename_i hkb; rw [hkb] at hk; exact (hap.1 d hd g (by simp [Chunk.own, Value.ownBlock]) hk).elim
      · exact h.out d (.tail _ hd) k hk
    · rw [List.drop_zero, ht]; exact hc.mono hle

theorem grownCap_big (w : World) (need old : Nat) (e : TypeId) : need ≤ grownCap w need old e := grownCap_ge w need old e

/-- 'append': the own slice at place k grows by the cells news, whatever they come from. -/
theorem run_append {k : Nat} {v x : Value} {t tx ty E : TypeId} {agg : Bool} {z n m : Nat} {zero c news : List Value} {bb : Nat} (hst : St S M w) (hk : M[k]? = some (.sl v E z n c)) (hT : SlT P t E) (hE : Ty P E agg z zero bb)
    (hs : Src P z tx x m news w) (hb : (n + m) * bb ≤ 140737488355328) (hm : n + m ≤ 140737488355328) (_hz : 0 < z) :
    ∃ v' w', (Builtin.append_ #[t, tx] ty #[v, x]).run P w = .ok v' w' ∧ St S (M.set k (.sl v' E z (n + m) (c ++ news))) w' := by
  obtain ⟨i, hi, hiz, his, hib⟩ := hE.run_bytes
  have hmv := hst.move hk
  have h0 := hmv.at_ _ (.head _)
  have hcl : (c ++ news).length = (n + m) * z := by rw [List.length_append, h0.1, hs.newsLen, Nat.add_mul]
  have hzero : (vOf agg zero).cells.size = z := by rw [← hE.len_, ← Array.length_toList, hE.cells_]
  have hzcs : ∀ q, (Builtin.zeroCells (vOf agg zero).cells q).size = q * z := fun q => by rw [size_zeroCells, hzero]
  -- the arm that grows
  have grow : ∀ (base : Option Addr) (cap : Nat), (Builtin.firstCells i.size n (.slice base n cap)).run P w.drew = .ok c.toArray w.drew → cap < n + m → v = .slice base n cap →
      ∃ v' w', (Builtin.append_ #[t, tx] ty #[v, x]).run P w = .ok v' w' ∧ St S (M.set k (.sl v' E z (n + m) (c ++ news))) w' := by
    intro base cap hold hg hv
    have hfit := growslice_fits (need := n + m) (old := cap) (bytes := i.bytes) hg (by rw [hib]; exact hb)
    have hr := run_append_grow_src (P := P) w t tx ty E i (vOf agg zero) hT.u hi hiz base n cap c hold x m news (his ▸ hs) hg (by omega) hfit
    subst hv
    refine ⟨_, _, hr, ?_⟩
    have hge := grownCap_ge w (n + m) cap E
    have hcm := grownCap_le_maxLen w (n + m) cap E (by simp only [maxLen]; omega)
    have hal := (St.drew (hmv.drop)).alloc_sl (n := n + m) (cap := grownCap w (n + m) cap E) (z := z) (c := c ++ news) (T := E) (fz := (0, 0))
      (cur := (c ++ news).toArray ++ Builtin.zeroCells (vOf agg zero).cells (grownCap w (n + m) cap E - (n + m))) hcl (fun j _ => by simp) hge hcm
      (by simp only [Array.size_append, List.size_toArray, hcl, hzcs, ← Nat.add_mul]; exact Nat.mul_le_mul_right _ (by omega))
      (by rw [Array.toList_append, List.take_append, List.take_of_length_le (by simp [hcl])]; simp [hcl])
    exact St.back hk hal
  rcases h0.2 with ⟨rfl, rfl⟩ | ⟨g, cap, cur, fz, rfl, hg, hfz, hnc, hcm, hcs, htk⟩
  · have hc0 : c = [] := List.eq_nil_of_length_eq_zero (by simpa using h0.1)
    subst hc0
    by_cases hm0 : m = 0
    · subst hm0
      have hnews : news = [] := List.eq_nil_of_length_eq_zero (by simpa using hs.newsLen)
      subst hnews
      refine ⟨.slice none 0 0, w, ?_, ?_⟩
      · have hcells := hs.cells
        rcases hs.kind with ⟨e', hkk⟩ | hkk <;> simp [Builtin.append_, run_underlying hT.u, run_underlying hkk, sizeOf, typeInfo, hi, his, hs.len, hcells]
      · exact St.back hk (by simpa using hmv)
    · exact grow none 0 (by rw [run_firstCells_none]) (by omega) rfl
  · by_cases hroom : n + m ≤ cap
    · have hfit : n * z + news.length ≤ cur.size := by rw [hs.newsLen, ← Nat.add_mul]; exact Nat.le_trans (Nat.mul_le_mul_right _ hroom) hcs
      have hcell : ∀ j, j < news.length → (w.cell? ⟨g, n * z + j, none⟩).isSome = true := fun j hj => by
        have hlt : n * z + j < cur.size := by omega
        simp only [World.cell?, hg]
        simp [hlt]
      have hfro : ∀ j, j < news.length → w.frozen? ⟨g, n * z + j, none⟩ = false := fun j hj => by
        have := hfz (n * z + j) (by omega)
        simp only [World.frozen?, hg]
        simpa using this
      have hr := run_append_room_src (P := P) w t tx ty E i hT.u hi g 0 n cap x m news (his ▸ hs) hroom (by simpa [his] using hcell) (by simpa [his] using hfro)
      refine ⟨_, _, hr, ?_⟩
      have hat := setCells_at g E fz news (n * z) w cur.toList (by simpa using hg) (by simpa using hfit)
      obtain ⟨e1, e2, e3⟩ := setCells_world g news (n * z) w
      rw [Nat.zero_add, his]
      refine St.back hk (hmv.set e1 e2 e3 ⟨hcl, .inr ⟨g, cap, _, fz, rfl, hat, ?_, hroom, hcm, ?_, ?_⟩⟩ (fun b hb => .inl hb) (fun b _ hne => setCells_other g news _ w b (fun e => hne (by simp [Chunk.own, Value.ownBlock, e]))))
      · intro j hj
        refine hfz j ?_
        simp only [List.size_toArray, List.length_append, List.length_take, List.length_drop, Array.length_toList] at hj
        omega
      · simp only [List.size_toArray, List.length_append, List.length_take, List.length_drop, Array.length_toList]
        omega
      · simp only []
        rw [htk, List.append_assoc, ← List.append_assoc, Nat.add_mul, ← hs.newsLen]
        rw [List.take_append, List.take_of_length_le (by simp [h0.1])]
        simp [h0.1]
    · refine grow (some ⟨g, 0, none⟩) cap ?_ (by omega) rfl
      refine run_firstCells_some w.drew i.size n ⟨g, 0, none⟩ n cap c (by rw [his]; exact h0.1) (fun j u hu => ?_)
      rw [Addr.add_mid, Nat.zero_add]
      simp only [World.cell?, show w.drew.heap[g]? = w.heap[g]? from rfl, hg]
      rw [← htk, List.getElem?_take] at hu
      split at hu
      · simpa using hu
      · cases hu

/-! What is appended -/
theorem Src.own {j : Nat} {v : Value} {T tx e' : TypeId} {z n : Nat} {c : List Value} (hst : St S M w) (hj : M[j]? = some (.sl v T z n c)) (h1 : ∀ u ∈ c, u.oneCell' = true) (hk : P.underlying tx = some (.slice e')) : Src P z tx v n c w := by
  have h := hst.get hj
  rcases h.2 with ⟨rfl, rfl⟩ | ⟨g, cap, cur, fz, rfl, hg, hfz, hnc, hcm, hcs, htk⟩
  · obtain rfl : c = [] := List.eq_nil_of_length_eq_zero (by simpa using h.1)
    exact Src.ofNil w hk 0
  · refine Src.ofSlice w hk _ _ _ _ h.1 (fun j u hu => ?_) h1
    rw [Addr.add_mid, Nat.zero_add]
    simp only [World.cell?, hg]
    rw [← htk, List.getElem?_take] at hu
    split at hu
    · simpa using hu
    · cases hu

theorem Src.data {v : Value} {xs : List α} {tx e' : TypeId} (hst : St S M w) (hv : RSl S v xs) (hk : P.underlying tx = some (.slice e')) : ∃ c, Src P (Rep.z α) tx v xs.length c w ∧ RL S c xs := by
  rcases hv with ⟨ad, cap, rfl, rfl, _⟩ | ⟨b, o, cap, c, T, fz, rfl, hb, hc, hm, hRL⟩
  · refine ⟨[], ?_, RL.nil⟩
    cases ad with
    | none => exact Src.ofNil w hk cap
    | some ad => exact Src.ofSlice w hk ad 0 cap [] (by simp) (fun j u hu => by simp at hu) (fun u hu => by simp at hu)
  · refine ⟨_, Src.ofSlice w hk _ _ _ _ hRL.1 (fun j u hu => ?_) hRL.one, hRL⟩
    rw [Addr.add_mid]
    exact range_of (hst.has _ _ hb) j u hu

/-- 'append(x, y...)' onto an own slice, y another own slice (a temporary that is given up). -/
theorem s_append {k j : Nat} {x y : Operand} {v u : Value} {t tx E e' F : TypeId} {agg : Bool} {z n m : Nat} {zero c c' : List Value} {bb : Nat} (hst : St S M w) (hx : evF l x = v) (hy : evF l y = u) (hk : M[k]? = some (.sl v E z n c)) (hj : M[j]? = some (.sl u F z m c'))
    (hT : SlT P t E) (hE : Ty P E agg z zero bb) (hU : SlT P tx e') (h1 : ∀ q ∈ c', q.oneCell' = true) (hb : (n + m) * bb ≤ 140737488355328) (hm : n + m ≤ 140737488355328) (hz : 0 < z)
    (h : ∀ v' w', St S ((M.set k (.sl v' E z (n + m) (c ++ c')))) w' → wpList P ops Q rest ⟨(l.set d v').toArray, D⟩ w') :
    wpList P ops Q (⟨some d, .call { callee := .builtin .append, args := #[x, y], argTypes := #[t, tx] }, ty, pos, af, none⟩ :: rest) ⟨l.toArray, D⟩ w := by
  obtain ⟨v', w', hr, hst'⟩ := run_append (P := P) (ty := ty) hst hk hT hE (Src.own hst hj h1 hU.u) hb hm hz
  refine step_value ?_ (h v' w' hst')
  simp [execOp, resolve, invoke, builtin, hx, hy, hr]

/-- 'append(x, y...)', y data. -/
theorem s_append_data {k : Nat} {x y : Operand} {v u : Value} {t tx E e' : TypeId} {agg : Bool} {n : Nat} {zero c : List Value} {xs : List α} {bb : Nat} (hst : St S M w) (hx : evF l x = v) (hy : evF l y = u) (hk : M[k]? = some (.sl v E (Rep.z α) n c)) (hu : RSl S u xs)
    (hT : SlT P t E) (hE : Ty P E agg (Rep.z α) zero bb) (hU : SlT P tx e') (hb : (n + xs.length) * bb ≤ 140737488355328) (hm : n + xs.length ≤ 140737488355328) (hz : 0 < Rep.z α)
    (h : ∀ v' w' c', RL S c' xs → St S ((M.set k (.sl v' E (Rep.z α) (n + xs.length) (c ++ c')))) w' → wpList P ops Q rest ⟨(l.set d v').toArray, D⟩ w') :
    wpList P ops Q (⟨some d, .call { callee := .builtin .append, args := #[x, y], argTypes := #[t, tx] }, ty, pos, af, none⟩ :: rest) ⟨l.toArray, D⟩ w := by
  obtain ⟨c', hs, hc'⟩ := Src.data (P := P) hst hu hU.u
  obtain ⟨v', w', hr, hst'⟩ := run_append (P := P) (ty := ty) hst hk hT hE hs hb hm hz
  refine step_value ?_ (h v' w' c' hc' hst')
  simp [execOp, resolve, invoke, builtin, hx, hy, hr]

def u8s (b : List UInt8) : List Value := b.map fun x => .int .u8 x.toNat

theorem RL.of_u8s (b : List UInt8) : RL S (Sl.u8s b) b := by
  refine ⟨by simp [Sl.u8s, Rep.z], fun i x hx => ?_⟩
  show _ = _
  rw [show Rep.z UInt8 = 1 from rfl, Nat.mul_one]
  apply List.ext_getElem?
  intro j
  rw [List.getElem?_take, List.getElem?_drop]
  cases j with
  | zero => simp [Sl.u8s, hx]
  | succ j => simp

theorem RL.eq_u8s {c : List Value} {b : List UInt8} (h : RL S c b) : c = u8s b := by
  apply List.ext_getElem?
  intro j
  simp only [Sl.u8s, List.getElem?_map]
  have hl : c.length = b.length := by simpa [Rep.z] using h.1
  cases hb : b[j]? with
  | none => simp only [Option.map_none]; rw [List.getElem?_eq_none_iff] at hb ⊢; omega
  | some x =>
    have := h.2 j x hb
    have h2 : (c.drop (j * Rep.z UInt8)).take (Rep.z UInt8) = [.int .u8 x.toNat] := this
    rw [show Rep.z UInt8 = 1 from rfl, Nat.mul_one] at h2
    have h3 := congrArg (·[0]?) h2
    simpa [List.getElem?_take, List.getElem?_drop] using h3

/-- 'append(x, s...)', s a string. -/
theorem s_append_str {k : Nat} {x y : Operand} {v : Value} {t tx E : TypeId} {agg : Bool} {n : Nat} {zero c : List Value} {b : List UInt8} {bb : Nat} (hst : St S M w) (hx : evF l x = v) (hy : evF l y = .string ⟨b.toArray⟩) (hk : M[k]? = some (.sl v E 1 n c))
    (hT : SlT P t E) (hE : Ty P E agg 1 zero bb) (hU : P.underlying tx = some .string) (hb : (n + b.length) * bb ≤ 140737488355328) (hm : n + b.length ≤ 140737488355328)
    (h : ∀ v' w', St S ((M.set k (.sl v' E 1 (n + b.length) (c ++ u8s b)))) w' → wpList P ops Q rest ⟨(l.set d v').toArray, D⟩ w') :
    wpList P ops Q (⟨some d, .call { callee := .builtin .append, args := #[x, y], argTypes := #[t, tx] }, ty, pos, af, none⟩ :: rest) ⟨l.toArray, D⟩ w := by
  have hs : Src P 1 tx (.string ⟨b.toArray⟩) b.length (u8s b) w := by
    have := Src.ofString (P := P) w hU ⟨b.toArray⟩
    simpa [byteCells, u8s, ByteArray.size] using this
  obtain ⟨v', w', hr, hst'⟩ := run_append (P := P) (ty := ty) hst hk hT hE hs hb hm (by omega)
  refine step_value ?_ (h v' w' hst')
  simp [execOp, resolve, invoke, builtin, hx, hy, hr]
end
end Go.Sl
