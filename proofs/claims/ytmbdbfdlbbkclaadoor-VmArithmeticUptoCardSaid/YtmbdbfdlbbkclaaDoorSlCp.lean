/- 'copy' of data into an own slice. General over the program. -/
import Derived.Test.YtmbdbfdlbbkclaaDoorSlE
namespace Go.Sl
set_option linter.unusedSimpArgs false
set_option linter.unusedVariables false
open Go.RowKit
variable {P : Program} {S : Snap} {M : List Chunk} {l : List Value} {ops : Array Oper} {rest : List Oper} {Q : Exit → Act → World → Prop} {D : List Deferred} {w : World} {ty : TypeId} {pos : String} {af : Array Edge} {d : Tmp}

theorem run_copy {k : Nat} {v x : Value} {t tx ty E : TypeId} {agg : Bool} {z n m : Nat} {zero c news : List Value} {bb : Nat} (hst : St S M w) (hk : M[k]? = some (.sl v E z n c)) (hT : SlT P t E) (hE : Ty P E agg z zero bb)
    (hs : Src P z tx x m news w) (h1 : ∀ u ∈ news, u.oneCell' = true) (hm : m ≤ n) :
    ∃ w', (Builtin.copy_ #[t, tx] ty #[v, x]).run P w = .ok (goInt m) w' ∧ St S (M.set k (.sl v E z n (news ++ c.drop (m * z)))) w' := by
  obtain ⟨i, hi, hiz, his, hib⟩ := hE.run_bytes
  have hmv := hst.move hk
  have h0 := hmv.at_ _ (.head _)
  have hlen := hs.len
  have hcells := hs.cells
  have hnl := hs.newsLen
  have hmin : ∀ q, m ≤ q → Nat.min m q = m := fun q hq => Nat.min_eq_left hq
  rcases h0.2 with ⟨rfl, rfl⟩ | ⟨g, cap, cur, fz, rfl, hg, hfz, hnc, hcm, hcs, htk⟩
  · obtain rfl : m = 0 := by omega
    have hc0 : c = [] := List.eq_nil_of_length_eq_zero (by simpa using h0.1)
    subst hc0
    have hnews : news = [] := List.eq_nil_of_length_eq_zero (by simpa using hnl)
    subst hnews
    refine ⟨w, ?_, St.back hk (by simpa using hmv)⟩
    simp [Builtin.copy_, run_underlying hT.u, sizeOf, typeInfo, hi, his, hlen, hcells]
  · have hle : m * z ≤ n * z := Nat.mul_le_mul_right _ hm
    have hfit : 0 + news.length ≤ cur.size := by
      rw [hnl, Nat.zero_add]
      exact Nat.le_trans hle (Nat.le_trans (Nat.mul_le_mul_right _ hnc) hcs)
    have hcell : ∀ j, j < news.length → (w.cell? ⟨g, 0 + 0 + j, none⟩).isSome = true := fun j hj => by
      have hlt : j < cur.size := by omega
      simp only [World.cell?, hg]
      simp [hlt]
    have hfro : ∀ j, j < news.length → w.frozen? ⟨g, 0 + 0 + j, none⟩ = false := fun j hj => by
      have := hfz j (by omega)
      simp only [World.frozen?, hg]
      simpa using this
    have hrun := run_storeCells_cells (P := P) g 0 news 0 w hcell hfro (fun u hu => h1 u hu)
    have hat := setCells_at g E fz news 0 w cur.toList (by simpa using hg) (by simpa using hfit)
    obtain ⟨e1, e2, e3⟩ := setCells_world g news 0 w
    simp only [Nat.add_zero] at hrun
    refine ⟨_, ?_, St.back hk (hmv.set e1 e2 e3 ⟨?_, .inr ⟨g, cap, _, fz, rfl, hat, ?_, hnc, hcm, ?_, ?_⟩⟩ (fun b hb => .inl hb) (fun b _ hne => setCells_other g news _ w b (fun e => hne (by simp [Chunk.own, Value.ownBlock, e]))))⟩
    · simp [Builtin.copy_, run_underlying hT.u, sizeOf, typeInfo, hi, his, hlen, hmin n hm, hcells, hrun]
    · rw [List.length_append, List.length_drop, hnl, h0.1]; omega
    · intro j hj
      refine hfz j ?_
      simp only [List.size_toArray, List.length_append, List.length_take, List.length_drop, Array.length_toList] at hj
      omega
    · simp only [List.size_toArray, List.length_append, List.length_take, List.length_drop, Array.length_toList]
      omega
    · rw [List.toList_toArray, List.take_zero, List.nil_append, Nat.zero_add, List.take_append, List.take_of_length_le (by omega), ← htk, List.drop_take, hnl]
theorem s_copy {x y : Operand} {k : Nat} {v u : Value} {t tx E : TypeId} {agg : Bool} {z n m : Nat} {zero c news : List Value} {bb : Nat} (hst : St S M w) (hx : evF l x = v) (hy : evF l y = u) (hk : M[k]? = some (.sl v E z n c)) (hT : SlT P t E) (hE : Ty P E agg z zero bb)
    (hs : Src P z tx u m news w) (h1 : ∀ u ∈ news, u.oneCell' = true) (hm : m ≤ n)
    (h : ∀ w', St S (M.set k (.sl v E z n (news ++ c.drop (m * z)))) w' → wpList P ops Q rest ⟨(l.set d (.int .i64 m)).toArray, D⟩ w') :
    wpList P ops Q (⟨some d, .call { callee := .builtin .copy, args := #[x, y], argTypes := #[t, tx] }, ty, pos, af, none⟩ :: rest) ⟨l.toArray, D⟩ w := by
  obtain ⟨w', hr, hst'⟩ := run_copy (P := P) (ty := ty) hst hk hT hE hs h1 hm
  refine step_value (v := .int .i64 m) (w' := w') ?_ (h _ hst')
  simp [execOp, resolve, invoke, builtin, hx, hy, hr, goInt]
end Go.Sl
