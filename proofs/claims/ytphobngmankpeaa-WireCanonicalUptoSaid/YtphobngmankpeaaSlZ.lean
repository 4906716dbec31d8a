/- Append to bytes whose slice is full: a new array, or the same slice where nothing comes. General over the program. -/
import Derived.Test.YtphobngmankpeaaSlY
namespace Go.Sl
set_option linter.unusedSimpArgs false
set_option linter.unusedVariables false
open Go.RowKit
variable {P : Program} {S : Snap} {M : List Chunk} {l : List Value} {ops : Array Oper} {rest : List Oper} {Q : Exit → Act → World → Prop} {D : List Deferred} {w : World} {ty : TypeId} {pos : String} {af : Array Edge} {d : Tmp}

/-- x[:len(x):len(x)]. -/
theorem qt_slice_full {α : Type} [Rep α] {T E : TypeId} {x : Operand} {hi mx : Option Operand} {agg : Bool} {zero : List Value} {bb : Nat} {v : Value} {xs : List α} {k1 k2 : IntKind} (hx : evF l x = v) (hv : RSl S v xs) (hT : SlT P T E) (hE : Ty P E agg (Rep.z α) zero bb)
    (hh : hi.map (evF l) = some (.int k1 (xs.length : Nat))) (hm : mx.map (evF l) = some (.int k2 (xs.length : Nat))) :
    ∃ v', (RSl S v' xs ∧ ∃ ad, v' = .slice ad xs.length xs.length) ∧ Qt P l (.slice T x none hi mx) S M v' := by
  obtain ⟨ad, cap, rfl, hc, _⟩ := hv.form
  have hs := hv.sub rfl 0 xs.length xs.length (Nat.zero_le _) (Nat.le_refl _) (Nat.le_refl _) (by omega)
  rw [List.drop_zero, Nat.sub_zero, List.take_length] at hs
  refine ⟨_, ⟨hs, _, rfl⟩, fun dst ty pos af w hst => ?_⟩
  simp only [execOp, hx, Sem.run_bind]
  rw [run_sliceAt hT hE (lo := Option.map (evF l) none) (.inl ⟨rfl, rfl⟩) (.inr ⟨k1, hh⟩) (m := xs.length) (.inr ⟨k2, hm⟩) (Nat.zero_le _) (Nat.le_refl _) (by omega) (by intro _; rw [hh]; rfl)]
  rfl

theorem s_append_full {x y : Operand} {v u : Value} {t tx E e' : TypeId} {agg : Bool} {zero : List Value} {bb : Nat} {xs ys : List UInt8} (hst : St S M w) (hx : evF l x = v) (hy : evF l y = u) (hv : RSl S v xs) (hf : ∃ ad, v = .slice ad xs.length xs.length) (hpos : 0 < xs.length) (hu : RSl S u ys)
    (hT : SlT P t E) (hE : Ty P E agg 1 zero bb) (hU : SlT P tx e') (hb : (xs.length + ys.length) * bb ≤ 140737488355328) (hm : xs.length + ys.length ≤ 140737488355328)
    (h : ∀ v' w' S', S.Le S' → RSl S' v' (xs ++ ys) → v'.oneCell' = true → St S' M w' → wpList P ops Q rest ⟨(l.set d v').toArray, D⟩ w') :
    wpList P ops Q (⟨some d, .call { callee := .builtin .append, args := #[x, y], argTypes := #[t, tx] }, ty, pos, af, none⟩ :: rest) ⟨l.toArray, D⟩ w := by
  obtain ⟨news, hs, hnews⟩ := Src.data (P := P) hst hu hU.u
  have hn : news = u8s ys := hnews.eq_u8s
  subst hn
  obtain ⟨i, hi, hiz, his, hib⟩ := hE.run_bytes
  obtain ⟨ad, rfl⟩ := hf
  rcases hv with ⟨ad', cap', e, e2, _⟩ | ⟨b, o, cap, c, T, fz, e, hblk, hc, hmx, hRL⟩
  · subst e2; simp at hpos
  · obtain ⟨rfl, rfl⟩ : ad = some ⟨b, o, none⟩ ∧ xs.length = cap := by simpa using e
    have hw := hst.has _ _ hblk
    have hcu := hRL.eq_u8s
    have hfin : ∀ v' w', (Builtin.append_ #[t, tx] ty #[.slice (some ⟨b, o, none⟩) xs.length xs.length, u]).run P w = .ok v' w' → (∃ S', S.Le S' ∧ RSl S' v' (xs ++ ys) ∧ v'.oneCell' = true ∧ St S' M w') →
        wpList P ops Q (⟨some d, .call { callee := .builtin .append, args := #[x, y], argTypes := #[t, tx] }, ty, pos, af, none⟩ :: rest) ⟨l.toArray, D⟩ w := by
      rintro v' w' hr ⟨S', a1, a2, a3, a4⟩
      refine step_value ?_ (h v' w' S' a1 a2 a3 a4)
      simp [execOp, resolve, invoke, builtin, hx, hy, hr]
    by_cases hm0 : ys.length = 0
    · obtain rfl : ys = [] := List.eq_nil_of_length_eq_zero hm0
      have hr := run_append_room_src (P := P) w t tx ty E i hT.u hi b o xs.length xs.length u 0 [] (his ▸ hs) (by omega) (fun j hj => by simp at hj) (fun j hj => by simp at hj)
      refine hfin _ _ hr ⟨S, Snap.Le.refl S, ?_, rfl, hst⟩
      rw [List.append_nil]
      exact .inr ⟨b, o, xs.length, c, T, fz, rfl, hblk, Nat.le_refl _, hmx, hRL⟩
    · have hold : (Builtin.firstCells i.size xs.length (.slice (some ⟨b, o, none⟩) xs.length xs.length)).run P w.drew = .ok (u8s xs).toArray w.drew := by
        refine run_firstCells_some w.drew i.size xs.length ⟨b, o, none⟩ xs.length xs.length (u8s xs) (by rw [his, u8s_length, Nat.mul_one]) (fun j q hq => ?_)
        rw [Addr.add_mid]
        have := range_of (w := w) (o := o) (n := xs.length * 1) hw j q (by rw [← hcu] at hq; exact hq)
        exact this
      have hfit := growslice_fits (need := xs.length + ys.length) (old := xs.length) (bytes := i.bytes) (by omega) (by rw [hib]; exact hb)
      have hr := run_append_grow_src (P := P) w t tx ty E i (vOf agg zero) hT.u hi hiz (some ⟨b, o, none⟩) xs.length xs.length (u8s xs) hold u ys.length (u8s ys) (his ▸ hs) (by omega) (by omega) hfit
      have hge := grownCap_ge w (xs.length + ys.length) xs.length E
      have hcm := grownCap_le_maxLen w (xs.length + ys.length) xs.length E (by simp only [maxLen]; omega)
      have hzero : (vOf agg zero).cells.size = 1 := by rw [← hE.len_, ← Array.length_toList, hE.cells_]
      have hzcs : ∀ q, (Builtin.zeroCells (vOf agg zero).cells q).size = q * 1 := fun q => by rw [size_zeroCells, hzero]
      have hcl : (u8s xs ++ u8s ys).length = (xs.length + ys.length) * 1 := by rw [List.length_append, u8s_length, u8s_length, Nat.mul_one]
      have hal := (St.drew hst).alloc_sl (n := xs.length + ys.length) (cap := grownCap w (xs.length + ys.length) xs.length E) (z := 1) (c := u8s xs ++ u8s ys) (T := E) (fz := (0, 0))
        (cur := (u8s xs ++ u8s ys).toArray ++ Builtin.zeroCells (vOf agg zero).cells (grownCap w (xs.length + ys.length) xs.length E - (xs.length + ys.length))) hcl (fun j _ => by simp) hge hcm
        (by simp only [Array.size_append, List.size_toArray, hcl, hzcs, ← Nat.add_mul]; exact Nat.mul_le_mul_right _ (by omega))
        (by rw [Array.toList_append, List.take_append, List.take_of_length_le (by simp [hcl])]; simp [hcl])
      obtain ⟨S', a1, a2, a3⟩ := lit_u8 (xs ++ ys) hal (u8s_append xs ys).symm (by rw [List.length_append])
      exact hfin _ _ hr ⟨S', a1, a3, rfl, a2⟩
end Go.Sl
