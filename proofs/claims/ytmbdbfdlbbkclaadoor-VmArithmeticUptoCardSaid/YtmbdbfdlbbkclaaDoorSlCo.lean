/- A slice grown by zeros; an own slice cut short. General over the program. -/
import Derived.Test.YtmbdbfdlbbkclaaDoorSlC
namespace Go.Sl
set_option linter.unusedSimpArgs false
set_option linter.unusedVariables false
open Go.RowKit
variable {P : Program} {S : Snap} {M : List Chunk} {l : List Value} {ops : Array Oper} {rest : List Oper} {Q : Exit → Act → World → Prop} {D : List Deferred} {w : World} {ty : TypeId} {pos : String} {af : Array Edge} {d : Tmp}

theorem run_append_zeros {t tx ty e : TypeId} {i : TypeInfo} {z : Value} {k : IntKind} (w : World) (ht : P.underlying t = some (.slice e)) (hk : P.underlying tx = some (.int k)) (hi : P.info? e = some i) (hz : i.zero = some z) (hs : i.size = 1) (n : Nat) (h0 : 1 ≤ n) (hn : n ≤ 16777216) (hb : n * i.bytes ≤ 281474976710656) :
    (Builtin.append_ #[t, tx] ty #[.slice none 0 0, .int .i64 (n : Nat)]).run P w =
      .ok (.slice (some ⟨w.heap.size, 0, none⟩) n (grownCap w n 0 e)) (w.drew.alloc (.cells (Builtin.zeroCells z.cells n ++ Builtin.zeroCells z.cells (grownCap w n 0 e - n)) e)) := by
  have hw : IntKind.i64.wrap ((n : Nat) : Int) = (n : Int) := by
    simp only [IntKind.wrap, IntKind.bits, IntKind.signed]
    have : ((n : Int) % 2 ^ 64) = n := Int.emod_eq_of_lt (by omega) (by omega)
    simp [this]
    omega
  have h1 : ¬ (n = 0) := by omega
  have h63' : ¬ (9223372036854775807 < (n : Int)) := by omega
  have hb' : ¬ (281474976710656 < (n : Int) * (i.bytes : Int)) := by
    have : ((n * i.bytes : Nat) : Int) ≤ 281474976710656 := by omega
    rw [Int.natCast_mul] at this
    omega
  have h48' : ¬ (281474976710656 < Builtin.nextslicecap n 0 * i.bytes) := by rw [nextslicecap_zero h0]; omega
  simp [Builtin.append_, run_underlying ht, run_underlying hk, sizeOf, typeInfo, zeroValue, hi, hz, hs, hw, h1, hb', asInt, h63', h48', Question.forced, newRow, grownCap, Builtin.firstCells, show ¬ ((n : Int) < 0) by omega, asIntOf, intOf]

/-- 'append(nil, make([]E, n)...)'. -/
theorem s_zeros {x y : Operand} {t tx E : TypeId} {n : Nat} {zv : Value} {bb : Nat} {k : IntKind} (hst : St S M w) (hx : evF l x = .slice none 0 0) (hy : evF l y = .int .i64 (n : Nat)) (hT : SlT P t E) (hE : Ty P E false 1 [zv] bb) (hU : P.underlying tx = some (.int k)) (h0 : 1 ≤ n) (hn : n ≤ 16777216) (hb : bb ≤ 8)
    (h : ∀ v' w', (∃ ad cap, v' = .slice ad n cap) → St S (.sl v' E 1 n (List.replicate n zv) :: M) w' → wpList P ops Q rest ⟨(l.set d v').toArray, D⟩ w') :
    wpList P ops Q (⟨some d, .call { callee := .builtin .append, args := #[x, y], argTypes := #[t, tx] }, ty, pos, af, none⟩ :: rest) ⟨l.toArray, D⟩ w := by
  obtain ⟨i, hi, hiz, his, hib⟩ := hE.run_bytes
  have hcells := hE.cells_
  have hcl : (vOf false [zv]).cells = #[zv] := by
    have := congrArg List.toArray hcells
    simpa using this
  have hzc : ∀ q, Builtin.zeroCells (vOf false [zv]).cells q = (List.replicate q zv).toArray := by
    intro q
    rw [hcl]
    unfold Builtin.zeroCells
    apply Array.ext'
    simp [Nat.mod_one]
    apply List.ext_getElem
    · simp
    · intro j h1 h2
      simp
  have hbn : n * i.bytes ≤ 281474976710656 := by
    rw [hib]
    have := Nat.mul_le_mul hn hb
    omega
  have hr := run_append_zeros (P := P) (ty := ty) w hT.u hU hi hiz his n h0 hn hbn
  have hge := grownCap_ge w n 0 E
  have hcm := grownCap_le_maxLen w n 0 E (by simp only [maxLen]; omega)
  rw [hzc, hzc] at hr
  have hal := (St.drew hst).alloc_sl (n := n) (cap := grownCap w n 0 E) (z := 1) (c := List.replicate n zv) (T := E) (fz := (0, 0)) (cur := (List.replicate n zv).toArray ++ (List.replicate (grownCap w n 0 E - n) zv).toArray) (by simp) (fun j _ => by simp) hge hcm (by simp; omega) (by simp)
  have hdw : w.drew.heap.size = w.heap.size := rfl
  rw [hdw] at hal
  generalize w.drew.alloc (Obj.cells ((List.replicate n zv).toArray ++ (List.replicate (grownCap w n 0 E - n) zv).toArray) E) = W at hr hal
  refine step_value (w' := W) ?_ (h _ _ ⟨_, _, rfl⟩ hal)
  simp [execOp, resolve, invoke, builtin, hx, hy, hr]

/-- 'x[:m]' of an own slice. -/
theorem s_slice_own {T E F : TypeId} {x y : Operand} {agg : Bool} {z n m : Nat} {zero c : List Value} {bb k : Nat} {v : Value} {kk : IntKind} (hst : St S (.sl v F z n c :: M) w) (hx : evF l x = v) (hy : evF l y = .int kk (m : Nat)) (hT : SlT P T E) (hE : Ty P E agg z zero bb) (hm : m ≤ n) (hv : ∃ ad cap, v = .slice ad n cap)
    (h : ∀ v', St S (.sl v' F z m (c.take (m * z)) :: M) w → wpList P ops Q rest ⟨(l.set d v').toArray, D⟩ w) :
    wpList P ops Q (⟨some d, .slice T x none (some y) none, ty, pos, af, none⟩ :: rest) ⟨l.toArray, D⟩ w := by
  obtain ⟨ad, cap, rfl⟩ := hv
  have h0 := hst.at_ _ (.head _)
  have hap := List.pairwise_cons.1 hst.apart
  have hrun : n ≤ cap → (execOp (evF l) ⟨some d, .slice T x none (some y) none, ty, pos, af, none⟩).run P w = .ok (.value (.slice ad m cap)) w := by
    intro hc
    simp only [execOp, hx, Sem.run_bind]
    have := run_sliceAt (w := w) (hi := some (.int kk (m : Nat))) (mx := none) (lo := none) (ad := ad) (len := n) (cap := cap) (a := 0) (b := m) (m := cap) hT hE (.inl ⟨rfl, rfl⟩) (.inr ⟨kk, rfl⟩) (.inl ⟨rfl, rfl⟩) (Nat.zero_le _) (by omega) (Nat.le_refl _) (by simp)
    simp only [Option.map_none, Option.map_some, hy]
    rw [this]
    simp only [Sem.run_pure, Nat.sub_zero, Nat.zero_mul]
    cases ad with
    | none => split <;> rfl
    | some a =>
      split
      · rfl
      · simp [Addr.add]
  rcases h0.2 with ⟨e, hn⟩ | ⟨g, cap', cur, fz, e, hg, hfz, hnc, hcm, hcs, htk⟩
  · obtain ⟨rfl, rfl, rfl⟩ : ad = none ∧ n = 0 ∧ cap = 0 := by simpa using e
    obtain rfl : m = 0 := by omega
    refine step_value (w' := w) (hrun (Nat.zero_le _)) (h _ ?_)
    have hc0 : c = [] := List.eq_nil_of_length_eq_zero (by simpa using h0.1)
    subst hc0
    simpa using hst
  · obtain ⟨rfl, rfl⟩ : ad = some ⟨g, 0, none⟩ ∧ cap = cap' := by simpa using e
    refine step_value (w' := w) (hrun hnc) (h _ ?_)
    refine ⟨hst.os, hst.tape, hst.output, hst.has, fun q hq => ?_, fun q hq b hb => ?_, List.pairwise_cons.2 ⟨fun q hq b hb => ?_, hap.2⟩⟩
    · rcases List.mem_cons.1 hq with rfl | hq
      · refine ⟨?_, .inr ⟨g, cap, cur, fz, rfl, hg, hfz, by omega, hcm, hcs, ?_⟩⟩
        · rw [List.length_take, h0.1]
          exact Nat.min_eq_left (Nat.mul_le_mul_right _ hm)
        · rw [← htk, List.take_take, Nat.min_eq_left (Nat.mul_le_mul_right _ hm)]
      · exact hst.at_ q (.tail _ hq)
    · rcases List.mem_cons.1 hq with rfl | hq
      · exact hst.out _ (.head _) b (by simpa [Chunk.own, Value.ownBlock] using hb)
      · exact hst.out q (.tail _ hq) b hb
    · exact hap.1 q hq b (by simpa [Chunk.own, Value.ownBlock] using hb)
/-- 'x[:m]' of an own slice anywhere. -/
theorem s_slice_ownk {T E F : TypeId} {x y : Operand} {agg : Bool} {z n m : Nat} {zero c : List Value} {bb k : Nat} {v : Value} {kk : IntKind} (hst : St S M w) (hk : M[k]? = some (.sl v F z n c)) (hx : evF l x = v) (hy : evF l y = .int kk (m : Nat)) (hT : SlT P T E) (hE : Ty P E agg z zero bb) (hm : m ≤ n) (hv : ∃ ad cap, v = .slice ad n cap)
    (h : ∀ v', St S (M.set k (.sl v' F z m (c.take (m * z)))) w → wpList P ops Q rest ⟨(l.set d v').toArray, D⟩ w) :
    wpList P ops Q (⟨some d, .slice T x none (some y) none, ty, pos, af, none⟩ :: rest) ⟨l.toArray, D⟩ w :=
  s_slice_own (k := k) (hst.move hk) hx hy hT hE hm hv fun v' h' => h v' (St.back hk h')
theorem sl_formk {v : Value} {T : TypeId} {z n k : Nat} {c : List Value} (h : St S M w) (hk : M[k]? = some (.sl v T z n c)) : ∃ ad cap, v = .slice ad n cap := by
  rcases (h.get hk).2 with ⟨rfl, rfl⟩ | ⟨g, cap, cur, fz, rfl, _⟩
  · exact ⟨_, _, rfl⟩
  · exact ⟨_, _, rfl⟩
end Go.Sl
