/- What comes in: a reading is a datum, whose size is at most the reading's bulk. -/
import Derived.Test.YtmbdbfdlbbkclaaDoorSlA
import Derived.Test.YtmbdbfdlbbkclaaDoorRows

namespace Go.Sl
set_option linter.unusedSimpArgs false
set_option linter.unusedVariables false
open Go.RowKit Go.Proofs.YtmbdbfdlbbkclaaDoor
variable {P : Program}
section
variable {α β : Type} [Rep α] [Rep β] {S : Snap} {w : World}

/-! ### What came in -/
/-- All that is there when a call begins. -/
def snapOf (w : World) : Snap := ⟨w.os, w.tape, w.output, fun b => w.heap[b]?⟩

theorem St.start (w : World) : St (snapOf w) [] w where
  os := rfl
  tape := rfl
  output := rfl
  has := fun _ _ h => h
  at_ := fun _ h => (by cases h)
  out := fun _ h => (by cases h)
  apart := List.Pairwise.nil

theorem St.below {W w : World} {M : List Chunk} (h : St (snapOf W) M w) : Below W.heap.size W w := by
  have hb : ∀ k, k < W.heap.size → w.heap[k]? = W.heap[k]? := fun k hk => by
    have : (snapOf W).blk k = some W.heap[k] := by simp [snapOf, hk]
    rw [h.has k _ this]; simp [hk]
  refine ⟨h.os, h.tape, h.output, ?_, hb⟩
  rcases Nat.eq_zero_or_pos W.heap.size with e | e
  · omega
  · have := hb (W.heap.size - 1) (by omega)
    rw [Array.getElem?_eq_getElem (xs := W.heap) (by omega)] at this
    have h2 := (Array.getElem?_eq_some_iff.1 this).1
    omega

/-- How much a datum holds, at the least: every letter, every number. -/
class Siz (α : Type) where
  siz : α → Nat
instance : Siz Int := ⟨fun _ => 1⟩
instance : Siz UInt8 := ⟨fun _ => 1⟩
instance : Siz Bool := ⟨fun _ => 1⟩
instance : Siz Str := ⟨fun s => s.b.length⟩
instance : Siz Unit := ⟨fun _ => 0⟩
instance {α : Type} [Siz α] : Siz (List α) := ⟨fun l => (l.map Siz.siz).sum + 1⟩
instance {α β : Type} [Siz α] [Siz β] : Siz (α × β) := ⟨fun p => Siz.siz p.1 + Siz.siz p.2⟩
instance {α : Type} [Siz α] {n : Nat} : Siz (Arr α n) := ⟨fun a => (a.1.map Siz.siz).sum⟩
variable [Siz α] [Siz β]

omit [Rep α] in
theorem bulk_le {H ι : Type} {l : List ι} {f : ι → α} {D : ι → DataW H} (h : ∀ i ∈ l, Siz.siz (f i) ≤ Rows.uptoBulk (D i)) : ((l.map f).map Siz.siz).sum ≤ Rows.uptoBulkAll (l.map D) := by
  induction l with
  | nil => simp
  | cons i l ih =>
    have h1 := h i (.head _)
    have h2 := ih fun j hj => h j (.tail _ hj)
    simp only [List.map_cons, List.sum_cons, Rows.uptoBulkAll]
    omega

/-- A reading of type T is a datum. -/
class Opens (P : Program) (T : TypeId) (α : Type) [Rep α] [Siz α] : Prop where
  opens : ∀ {H : Type} {enc : TypeId × Value → H} {W : World} {base : Nat} {spare : Nat → Bool} {held : Bool} {fuel : Nat} {cs : List Value} {x : DataW H × List MemPlace},
    DataW.trod enc P W base spare held fuel T cs = some x → ∃ y : α, Rep.R (snapOf W) cs y ∧ Siz.siz y ≤ Rows.uptoBulk x.1

theorem opens_int {T : TypeId} (h : P.underlying T = some (.int .i64)) : Opens P T Int := ⟨fun hx => by
  obtain ⟨n, rfl, rfl, hw⟩ := DataW.trod_int h hx
  refine ⟨n, ⟨rfl, ?_⟩, by simp [Rows.uptoBulk, Siz.siz]⟩
  simpa [Lit.wf, IntKind.min, IntKind.max, IntKind.signed, IntKind.bits, I64] using hw⟩

theorem opens_u8 {T : TypeId} (h : P.underlying T = some (.int .u8)) : Opens P T UInt8 := ⟨fun hx => by
  obtain ⟨n, rfl, rfl, hw⟩ := DataW.trod_int h hx
  have : 0 ≤ n ∧ n ≤ 255 := by simpa [Lit.wf, IntKind.min, IntKind.max, IntKind.signed, IntKind.bits] using hw
  refine ⟨UInt8.ofNat n.toNat, ?_, by simp [Rows.uptoBulk, Siz.siz]⟩
  show [Value.int .u8 n] = [Value.int .u8 ((UInt8.ofNat n.toNat).toNat : Int)]
  rw [UInt8.toNat_ofNat']
  congr 2
  omega⟩

theorem opens_bool {T : TypeId} (h : P.underlying T = some .bool) : Opens P T Bool := ⟨fun hx => by
  obtain ⟨b, rfl, rfl⟩ := DataW.trod_bool h hx
  exact ⟨b, rfl, by simp [Rows.uptoBulk, Siz.siz]⟩⟩

theorem opens_str {T : TypeId} (h : P.underlying T = some .string) : Opens P T Str := ⟨fun hx => by
  obtain ⟨s, rfl, rfl, hl⟩ := DataW.trod_string h hx
  refine ⟨⟨s.data.toList⟩, ⟨?_, ?_⟩, by simp [Rows.uptoBulk, Siz.siz]⟩
  · rw [Array.toArray_toList]
  · rw [Array.length_toList]; exact hl⟩

theorem cellsOf_ty {T : TypeId} {agg : Bool} {z : Nat} {zero : List Value} {bb : Nat} (h : Ty P T agg z zero bb) : P.cellsOf T = z := by
  obtain ⟨i, hi, _, hs, _⟩ := h.run_bytes
  simp [Program.cellsOf, hi, hs]

theorem cells?_block {W : World} {base b o n : Nat} {sp : Option Nat} {cs : List Value} (h : W.cells? base ⟨b, o, sp⟩ n = some cs) (hn : 0 < n) :
    ∃ c T fz, W.heap[b]? = some (.cells c T fz) ∧ sp = none ∧ o + n ≤ c.size ∧ cs = (c.toList.drop o).take n := by
  obtain ⟨_, hl, hc⟩ := World.cells?_some h
  have h0 := hc 0 hn
  have hsp : sp = none := by
    cases sp with
    | none => rfl
    | some t =>
      exfalso
      rw [Addr.add_zero', List.getElem?_eq_getElem (by omega)] at h0
      unfold World.cell? at h0
      split at h0 <;> simp at h0
  subst hsp
  cases hb : W.heap[b]? with
  | none => rw [Addr.add_mid, List.getElem?_eq_getElem (by omega)] at h0; simp [World.cell?, hb] at h0
  | some ob =>
    cases ob with
    | cells c T fz =>
      have hcell : ∀ i, i < n → c[o + i]? = cs[i]? := fun i hi => by
        have := hc i hi
        rw [Addr.add_mid] at this
        simpa [World.cell?, hb] using this
      have hle : o + n ≤ c.size := by
        have := hcell (n - 1) (by omega)
        rw [List.getElem?_eq_getElem (by omega)] at this
        have := (Array.getElem?_eq_some_iff.1 this).1
        omega
      refine ⟨c, T, fz, rfl, rfl, hle, ?_⟩
      apply List.ext_getElem?
      intro i
      rw [List.getElem?_take]
      split
      · rename_i hi
        rw [← hcell i hi, List.getElem?_drop]
        simp
      · rename_i hi
        exact List.getElem?_eq_none (by omega)
    | _ => rw [Addr.add_mid, List.getElem?_eq_getElem (by omega)] at h0; simp [World.cell?, hb] at h0

theorem opens_list {T E : TypeId} {agg : Bool} {zero : List Value} {bb : Nat} (hT : SlT P T E) (hE : Ty P E agg (Rep.z α) zero bb) (hz : 0 < Rep.z α) [o : Opens P E α] : Opens P T (List α) := ⟨fun {H enc W base spare held fuel cs x} hx => by
  rcases Deep.open_slice hT.u hx with ⟨rfl, rfl⟩ | ⟨a, len, cap, m, n, Dt, Pl, rfl, hb, hl, hm, hmm, rfl, hel⟩
  · exact ⟨[], ⟨_, rfl, .inl ⟨none, 0, rfl, rfl, by simp [maxLen]⟩⟩, by simp [Rows.uptoBulk, Siz.siz]⟩
  · rw [cellsOf_ty hE] at hel
    have hlm : len ≤ m := by rw [hmm]; split <;> omega
    have hy : ∀ i, i < len → ∃ y : α, ∃ cs', W.cells? base (a.add (i * Rep.z α)) (Rep.z α) = some cs' ∧ Rep.R (snapOf W) cs' y ∧ Siz.siz y ≤ Rows.uptoBulk (Dt i) := fun i hi => by
      obtain ⟨cs', h1, h2⟩ := hel i (by omega)
      obtain ⟨y, hy, hs⟩ := o.opens h2
      exact ⟨y, cs', h1, hy, hs⟩
    rcases Nat.eq_zero_or_pos len with e | e
    · subst e; exact ⟨[], ⟨_, rfl, .inl ⟨some a, cap, rfl, rfl, hm⟩⟩, by simp [Rows.uptoBulk, Siz.siz]⟩
    · obtain ⟨b, o', sp⟩ := a
      have : Nonempty α := let ⟨y, _⟩ := hy 0 e; ⟨y⟩
      have hch : ∃ f : Nat → α, ∀ i, i < len → ∃ cs', W.cells? base ((⟨b, o', sp⟩ : Addr).add (i * Rep.z α)) (Rep.z α) = some cs' ∧ Rep.R (snapOf W) cs' (f i) ∧ Siz.siz (f i) ≤ Rows.uptoBulk (Dt i) := by
        have : Inhabited α := ⟨Classical.choice this⟩
        exact Deep.choose_lt hy
      obtain ⟨f, hf⟩ := hch
      obtain ⟨cs0, h0, _, _⟩ := hf 0 e
      rw [Nat.zero_mul, Addr.add_zero'] at h0
      obtain ⟨c, TT, fz, hblk, rfl, _, _⟩ := cells?_block h0 hz
      refine ⟨(List.range len).map f, ⟨_, rfl, .inr ⟨b, o', cap, c, TT, fz, by simp, hblk, by simpa using hl, hm, ?_⟩⟩, by
        have := bulk_le (l := List.range len) (f := f) (D := Dt) fun i hi => (hf i (List.mem_range.1 hi)).elim fun _ h => h.2.2
        simp only [Siz.siz, Rows.uptoBulk] at this ⊢
        omega⟩
      have hcell : ∀ i, i < len → o' + i * Rep.z α + Rep.z α ≤ c.size ∧ Rep.R (snapOf W) ((c.toList.drop (o' + i * Rep.z α)).take (Rep.z α)) (f i) := fun i hi => by
        obtain ⟨cs', h1, h2, _⟩ := hf i hi
        rw [Addr.add_mid] at h1
        obtain ⟨c', T', fz', hb', _, hle, rfl⟩ := cells?_block h1 hz
        obtain rfl : c = c' := by rw [hblk] at hb'; cases hb'; rfl
        exact ⟨hle, h2⟩
      have hlast := (hcell (len - 1) (by omega)).1
      have hlen : o' + len * Rep.z α ≤ c.size := by
        have : (len - 1) * Rep.z α + Rep.z α = len * Rep.z α := by rw [← Nat.succ_mul]; congr 1; omega
        omega
      refine ⟨by simp; omega, fun i x hix => ?_⟩
      have hi : i < len := by
        rcases Nat.lt_or_ge i len with h | h
        · exact h
        · rw [List.getElem?_eq_none (by simpa using h)] at hix; cases hix
      have hx : x = f i := by simpa [hi] using hix.symm
      subst hx
      have hR := (hcell i hi).2
      have hle : i * Rep.z α + Rep.z α ≤ len * Rep.z α := by rw [← Nat.succ_mul]; exact Nat.mul_le_mul_right _ hi
      rw [List.length_map, List.length_range, List.drop_take, List.take_take, List.drop_drop, Nat.min_eq_left (by omega)]
      exact hR⟩

/-- Structs: fields, one by one. 'FsR P fs off β': the fields fs, the first at off, read as the nested product β. -/
class OpenFs (P : Program) (fs : List Field) (off : Nat) (β : Type) [Rep β] [Siz β] : Prop where
  opens : ∀ {H : Type} {enc : TypeId × Value → H} {W : World} {base : Nat} {spare : Nat → Bool} {held : Bool} {fuel : Nat} {cs : List Value} {xs : List (DataW H × List MemPlace)},
    cs.length = off + Rep.z β → xs.length = fs.length → (∀ (i : Nat) (f : Field), fs[i]? = some f → DataW.trod enc P W base spare held fuel f.type ((cs.drop f.offset).take (P.cellsOf f.type)) = xs[i]?) →
      ∃ y : β, Rep.R (snapOf W) (cs.drop off) y ∧ Siz.siz y ≤ Rows.uptoBulkAll (xs.map (·.1))

theorem openFs_nil {off : Nat} : OpenFs P [] off Unit := ⟨fun h _ _ => ⟨(), by show List.drop _ _ = []; rw [List.drop_eq_nil_iff]; simp [Rep.z] at h; omega, by simp [Siz.siz]⟩⟩

theorem openFs_cons {f : Field} {fs : List Field} {off : Nat} (ho : f.offset = off) (hz : P.cellsOf f.type = Rep.z α) [oa : Opens P f.type α] [ob : OpenFs P fs (off + Rep.z α) β] : OpenFs P (f :: fs) off (α × β) := ⟨fun {H enc W base spare held fuel cs xs} h hlen hall => by
  subst ho
  cases xs with
  | nil => simp at hlen
  | cons x xs =>
    have h1 := hall 0 f rfl
    obtain ⟨y, hy, hs⟩ := oa.opens (x := x) h1
    obtain ⟨y', hy', hs'⟩ := ob.opens (xs := xs) (by rw [h]; show _ + (Rep.z α + Rep.z β) = _; omega) (by simpa using hlen) (fun i g hg => by simpa using hall (i + 1) g (by simpa using hg))
    refine ⟨(y, y'), ⟨?_, ?_, ?_⟩, ?_⟩
    · rw [List.length_drop, h]; show _ = Rep.z α + Rep.z β; have : Rep.z (α × β) = Rep.z α + Rep.z β := rfl; omega
    · rw [hz] at hy; exact hy
    · rw [List.drop_drop]; exact hy'
    · simp only [Siz.siz, List.map_cons, Rows.uptoBulkAll] at hs hs' ⊢; omega⟩

theorem opens_struct {T : TypeId} {fs : Array Field} (hT : P.underlying T = some (.struct fs)) (hz : P.cellsOf T = Rep.z α) (o : OpenFs P fs.toList 0 α) : Opens P T α := ⟨fun {H enc W base spare held fuel cs x} hx => by
  obtain ⟨xs, n, _, rfl, hl, hxl, hf⟩ := DataW.trod_struct hT hx
  obtain ⟨y, hy, hs⟩ := o.opens (enc := enc) (W := W) (base := base) (spare := spare) (held := held) (fuel := n) (cs := cs) (xs := xs) (by rw [hl, hz, Nat.zero_add]) (by rw [hxl]; simp) (fun i f hf' => hf i f (by simpa using hf'))
  exact ⟨y, by simpa using hy, by simp only [Rows.uptoBulk]; omega⟩⟩

theorem opens_array {T E : TypeId} {n : Nat} (hT : ArrT P T n E) (hz : P.cellsOf E = Rep.z α) (hz' : P.cellsOf T = n * Rep.z α) [o : Opens P E α] : Opens P T (Arr α n) := ⟨fun {H enc W base spare held fuel cs x} hx => by
  obtain ⟨xs, m, _, rfl, hl, hxl, hf⟩ := DataW.trod_array hT.u hx
  have hy : ∀ i, i < n → ∃ y : α, Rep.R (snapOf W) ((cs.drop (i * Rep.z α)).take (Rep.z α)) y ∧ Siz.siz y ≤ Rows.uptoBulk ((xs.map (·.1)).getD i .nil) := fun i hi => by
    have := hf i hi
    rw [List.getElem?_eq_getElem (by omega), hz] at this
    have h2 := o.opens this
    rw [List.getD_eq_getElem?_getD, List.getElem?_map, List.getElem?_eq_getElem (by omega)]
    exact h2
  have hch : ∃ l : List α, l.length = n ∧ (∀ i y, l[i]? = some y → Rep.R (snapOf W) ((cs.drop (i * Rep.z α)).take (Rep.z α)) y) ∧ (l.map Siz.siz).sum ≤ Rows.uptoBulkAll (xs.map (·.1)) := by
    rcases Nat.eq_zero_or_pos n with e | e
    · subst e; exact ⟨[], rfl, fun i y h => by simp at h, by simp⟩
    · obtain ⟨y0, _⟩ := hy 0 e
      have : Inhabited α := ⟨y0⟩
      obtain ⟨f, hf⟩ := Deep.choose_lt hy
      refine ⟨(List.range n).map f, by simp, fun i y h => ?_, ?_⟩
      · have hi : i < n := by
          rcases Nat.lt_or_ge i n with h' | h'
          · exact h'
          · rw [List.getElem?_eq_none (by simpa using h')] at h; cases h
        have : y = f i := by simpa [hi] using h.symm
        subst this
        exact (hf i hi).1
      · have := bulk_le (l := List.range n) (f := f) (D := fun i => (xs.map (·.1)).getD i .nil) fun i hi => (hf i (List.mem_range.1 hi)).2
        rwa [show (List.range n).map (fun i => (xs.map (·.1)).getD i .nil) = xs.map (·.1) from by
          apply List.ext_getElem?
          intro i
          rw [List.getElem?_map]
          by_cases hi : i < n
          · rw [List.getElem?_range hi, Option.map_some, List.getD_eq_getElem?_getD, List.getElem?_eq_getElem (by simp; omega)]; rfl
          · rw [List.getElem?_eq_none (by simp; omega), List.getElem?_eq_none (by simp; omega)]; rfl] at this
  obtain ⟨l, hll, hlr, hls⟩ := hch
  exact ⟨⟨l⟩, ⟨hll, by rw [hl, hz', hll], hlr⟩, by simp only [Rows.uptoBulk, Siz.siz]; omega⟩⟩
end
end Go.Sl
