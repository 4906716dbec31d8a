/- The references' encoders and SHA-256, walked. -/
import Derived.Test.YtlimhgamebnfeaaDoorBb
import Derived.Test.YtlimhgamebnfeaaDoorBa
import Derived.Test.YtlimhgamebnfeaaDoorBc
import Derived.Test.YtlimhgamebnfeaaDoorBd
import Derived.Test.YtlimhgamebnfeaaDoorBe

/- The orders of a region that draws its order meet again. General over the program. -/
namespace Go.Sl
set_option linter.unusedSimpArgs false
set_option linter.unusedVariables false
open Go.RowKit
def setMany : List Value → List Tmp → List Value → List Value
  | l, t :: ts, v :: vs => setMany (l.set t v) ts vs
  | l, _, _ => l
theorem setMany_cons (l : List Value) (t : Tmp) (ts : List Tmp) (v : Value) (vs : List Value) : setMany l (t :: ts) (v :: vs) = setMany (l.set t v) ts vs := rfl
theorem setMany_nil (l : List Value) (vs : List Value) : setMany l [] vs = l := by cases vs <;> rfl
theorem v_join {P : Program} {c : Code} {Q : Exit → Act → World → Prop} {l : List Value} {D : List Deferred} {w : World} (upd : List Tmp) (R : List Value → World → Prop)
    (h1 : ∀ Q' : Exit → Act → World → Prop, (∀ vs w, R vs w → Q' .normal ⟨(setMany l upd vs).toArray, D⟩ w) → c.wp P Q' ⟨l.toArray, D⟩ w)
    (h2 : ∀ vs w, R vs w → Q .normal ⟨(setMany l upd vs).toArray, D⟩ w) : c.wp P Q ⟨l.toArray, D⟩ w := h1 Q h2
end Go.Sl

/- Words and bytes, further operations: in range, with a constant, shortened. General over the program. -/
namespace Go.Sl
set_option linter.unusedSimpArgs false
set_option linter.unusedVariables false
open Go.RowKit
section
variable {P : Program} {S : Snap} {M : List Chunk} {l : List Value} {T U : TypeId} {x y : Operand}
theorem wrap_u8 {n : Int} (h : 0 ≤ n ∧ n ≤ 255) : IntKind.u8.wrap n = n := by
  simp only [IntKind.wrap, IntKind.bits, IntKind.signed]
  simp
  omega
theorem wrap_u32I {n : Int} (h : 0 ≤ n ∧ n ≤ 4294967295) : IntKind.u32.wrap n = n := by
  simp only [IntKind.wrap, IntKind.bits, IntKind.signed]
  simp
  omega
theorem qt_sub8 {a b : Int} (hx : evF l x = .int .u8 a) (hy : evF l y = .int .u8 b) (hw : 0 ≤ a - b ∧ a - b ≤ 255) : Qt P l (.binOp .sub T x y U) S M (.int .u8 (a - b)) := by
  have := qt_sub (P := P) (S := S) (M := M) (T := T) (U := U) hx hy
  rwa [wrap_u8 hw] at this
theorem qt_add8 {a b : Int} (hx : evF l x = .int .u8 a) (hy : evF l y = .int .u8 b) (hw : 0 ≤ a + b ∧ a + b ≤ 255) : Qt P l (.binOp .add T x y U) S M (.int .u8 (a + b)) := by
  have := qt_add (P := P) (S := S) (M := M) (T := T) (U := U) hx hy
  rwa [wrap_u8 hw] at this
theorem qt_addI32 {a b : Int} (hx : evF l x = .int .u32 a) (hy : evF l y = .int .u32 b) (hw : 0 ≤ a + b ∧ a + b ≤ 4294967295) : Qt P l (.binOp .add T x y U) S M (.int .u32 (a + b)) := by
  have := qt_add (P := P) (S := S) (M := M) (T := T) (U := U) hx hy
  rwa [wrap_u32I hw] at this
theorem qt_mulI32 {a b : Int} (hx : evF l x = .int .u32 a) (hy : evF l y = .int .u32 b) (hw : 0 ≤ a * b ∧ a * b ≤ 4294967295) : Qt P l (.binOp .mul T x y U) S M (.int .u32 (a * b)) := by
  have := qt_mul (P := P) (S := S) (M := M) (T := T) (U := U) hx hy
  rwa [wrap_u32I hw] at this
theorem qt_convI832 {n : Int} (hx : evF l x = .int .u8 n) (hT : IntT P T .u8) (hU : IntT P U .u32) (hw : 0 ≤ n ∧ n ≤ 255) : Qt P l (.convert T U x) S M (.int .u32 n) :=
  qt_conv_b hx hT hU (wrap_u32I (by omega))
theorem qt_xorl32 {a : UInt32} (hx : evF l x = .int .u32 4294967295) (hy : evF l y = .int .u32 (a.toNat : Int)) : Qt P l (.binOp .xor T x y U) S M (.int .u32 ((4294967295 ^^^ a : UInt32).toNat : Int)) :=
  qt_xor32 (a := 4294967295) hx hy
/-- The last byte of a word. -/
theorem qt_conv328 {a : UInt32} (hx : evF l x = .int .u32 (a.toNat : Int)) (hT : IntT P T .u32) (hU : IntT P U .u8) : Qt P l (.convert T U x) S M (.int .u8 ((UInt8.ofNat a.toNat).toNat : Int)) :=
  qt_conv_b hx hT hU (by
    rw [UInt8.toNat_ofNat']
    simp only [IntKind.wrap, IntKind.bits, IntKind.signed]
    simp)
theorem qt_rem' {a b : Int} (hx : evF l x = .int .i64 a) (hy : evF l y = .int .i64 b) (hw : 0 ≤ a ∧ 0 < b) : Qt P l (.binOp .rem T x y U) S M (.int .i64 (a % b)) :=
  qt_rem_b hx hy (by omega) (Int.tmod_eq_emod_of_nonneg hw.1)
theorem qt_quo' {a b : Int} (hx : evF l x = .int .i64 a) (hy : evF l y = .int .i64 b) (hw : 0 ≤ a ∧ 0 < b ∧ a ≤ 9223372036854775807) : Qt P l (.binOp .quo T x y U) S M (.int .i64 (a / b)) := fun dst ty pos af w _ => by
  have h0 : b ≠ 0 := by omega
  have h1 : a.tdiv b = a / b := Int.tdiv_eq_ediv_of_nonneg hw.1
  have h2 : 0 ≤ a / b := Int.ediv_nonneg hw.1 (by omega)
  have h3 : a / b ≤ a := Int.ediv_le_self _ hw.1
  have h4 : IntKind.i64.wrap (a / b) = a / b := by rw [IntKind.wrap_i64]; omega
  simp [execOp, hx, hy, binOp_quo, eqGuard_at_int, Op.intDiv, h0, h1, h4]
theorem bits_xor8 (a b : UInt8) : bits .xor .u8 (a.toNat : Int) (b.toNat : Int) = ((a ^^^ b).toNat : Int) := by
  show IntKind.u8.wrap ((BitVec.ofInt 8 (a.toNat : Int) ^^^ BitVec.ofInt 8 (b.toNat : Int)).toNat : Int) = _
  have e : ∀ x : UInt8, BitVec.ofInt 8 (x.toNat : Int) = x.toBitVec := fun x => by rw [BitVec.ofInt_natCast]; exact BitVec.ofNat_toNat ..
  rw [e, e, wrap_u8 (by have := (a.toBitVec ^^^ b.toBitVec).isLt; omega)]
  rfl
theorem qt_xor8 {a b : UInt8} (hx : evF l x = .int .u8 (a.toNat : Int)) (hy : evF l y = .int .u8 (b.toNat : Int)) : Qt P l (.binOp .xor T x y U) S M (.int .u8 ((a ^^^ b).toNat : Int)) := fun dst ty pos af w _ => by
  simp [execOp, hx, hy, eqGuard_at_int, binOp_xor, intBits_xor, bits_xor8]
theorem qt_extract {vs : List Value} {i : Nat} {v : Value} (hx : evF l x = .tuple vs.toArray) (hi : vs[i]? = some v) : Qt P l (.extract x i) S M v := fun dst ty pos af w _ => by
  simp [execOp, hx, Instr.extract, hi]
end
/-! ### Single bytes of a box -/
theorem u8s_get {bs : List UInt8} {j : Nat} (h : j < bs.length) : ((u8s bs).drop j).take 1 = [.int .u8 ((bs.getD j 0).toNat : Int)] := by
  rw [List.drop_eq_getElem_cons (by rw [u8s_length]; exact h), List.take_succ_cons, List.take_zero, List.getD_eq_getElem?_getD, List.getElem?_eq_getElem h]
  simp [u8s]
theorem u8s_set {bs : List UInt8} {j : Nat} (h : j < bs.length) (y : UInt8) : (u8s bs).take j ++ [.int .u8 (y.toNat : Int)] ++ (u8s bs).drop (j + 1) = u8s (bs.set j y) := by
  have : u8s (bs.set j y) = (u8s bs).set j (.int .u8 (y.toNat : Int)) := by simp [u8s, List.map_set]
  rw [this, List.set_eq_take_append_cons_drop, if_pos (by rw [u8s_length]; exact h), List.append_assoc]
  rfl
section
variable {P : Program} {S : Snap} {M : List Chunk} {l : List Value} {ops : Array Oper} {rest : List Oper} {Q : Exit → Act → World → Prop} {D : List Deferred} {w : World} {ty : TypeId} {pos : String} {af : Array Edge} {T B : TypeId} {x y : Operand} {zero : List Value} {bb b off k : Nat} {bs : List UInt8} {u : UInt8}
theorem qt_ldB8 (hx : evF l x = .pointer (some ⟨b, off, none⟩)) (hk : M[k]? = some (.box b (u8s bs) B)) (hT : Ty P T false 1 zero bb) (hl : off < bs.length) : Qt P l (.load T x) S M (.int .u8 ((bs.getD off 0).toNat : Int)) :=
  qt_load hx k hk hT (u8s_get hl) rfl
theorem s_stB8 (hst : St S M w) (hx : evF l x = .pointer (some ⟨b, off, none⟩)) (hk : M[k]? = some (.box b (u8s bs) B)) (hT : Ty P T false 1 zero bb) (hy : evF l y = .int .u8 (u.toNat : Int)) (hl : off < bs.length)
    (h : ∀ w', St S (M.set k (.box b (u8s (bs.set off u)) B)) w' → wpList P ops Q rest ⟨l.toArray, D⟩ w') :
    wpList P ops Q (⟨none, .store T x y, ty, pos, af, none⟩ :: rest) ⟨l.toArray, D⟩ w :=
  s_store hst hx k hk hT hy (cs := [.int .u8 (u.toNat : Int)]) rfl rfl rfl (by rw [u8s_length]; omega) fun w' h' => h w' (by rw [u8s_set hl] at h'; exact h')
end
end Go.Sl

/- Package wire: the references' encoding of byte strings, walked. -/
--@opt
namespace Go.Proofs.YtlimhgamebnfeaaDoor
set_option linter.unusedSimpArgs false
set_option linter.unusedVariables false
open Go.RowKit Go.Sl

set_option maxRecDepth 8000 in
set_option maxHeartbeats 400000 in
theorem refBytes_c {S M} (w : World) (hst : St S M w) (b : List UInt8) (hm : b.length ≤ 1048576) :
    Rets Tryd.prog 53 [.string ⟨b.toArray⟩] w fun v w' => St S (.sl v 5 1 (encB b).length (u8s (encB b)) :: M) w' := by
  unfold Rets
  have hel := encI_len b.length
  go_enter Tryd.func53, Tryd.ntmps53
  repeat' (first | (((with_reducible refine s_bytes hst evX Tryd.underlying9 inX Tryd.underlying5 (by omega) ?_; clear hst; intro u w hst)) <;> (try refine nX ?_)) | (((with_reducible refine Sl.k_call ?_; ((refine s_call (refInt_c w hst (b.length : Nat) (nat_i64 hm)) inX rfl ?_; clear hst; rintro v w hst)))) <;> (try refine nX ?_) <;> (try replace hst := nH hst)) | ((fail_if_success (go_big_may)); (go_step)) | (((with_reducible refine Sl.k_call ?_; (refine s_qt hst (by exact qt_len_str evX inX) ?_))) <;> (try refine nX ?_)))
  refine s_append (j := 0) hst evX evX SlIn.h rfl inX inX inX (u8s_one _) (by omega) (by omega) (by decide) ?_
  clear hst; intro v' w hst
  (try refine nX ?_)
  (try replace hst := nH hst)
  replace hst := hst.drop
  repeat' (((fail_if_success (go_big_may)); (go_step)))
  go_ret
  refine ⟨_, rfl, ?_⟩
  rw [encB, u8s_append, List.length_append]
  exact hst
end Go.Proofs.YtlimhgamebnfeaaDoor

/- Package wire: the references' encoding of lists of digests, walked. -/
--@opt
namespace Go.Proofs.YtlimhgamebnfeaaDoor
set_option linter.unusedSimpArgs false
set_option linter.unusedVariables false
open Go.RowKit Go.Sl

set_option maxRecDepth 8000 in
set_option maxHeartbeats 1000000 in
theorem refDigs_c {S M} (w : World) (hst : St S M w) (vl : Value) (xs : List Dg) (hl : RSl S vl xs) (hm : xs.length ≤ 1048576) :
    Rets Tryd.prog 70 [vl] w fun v w' => St S (.sl v 5 1 (encD xs).length (u8s (encD xs)) :: M) w' := by
  unfold Rets
  have hds := Lib.hid hl.dgs
  have hel := encI_len xs.length
  go_enter Tryd.func70, Tryd.ntmps70
  repeat' (first | (((with_reducible refine Sl.k_call ?_; ((refine s_call (refInt_c w hst (xs.length : Nat) (nat_i64 hm)) inX rfl ?_; clear hst; rintro v w hst)))) <;> (try refine nX ?_) <;> (try replace hst := nH hst)) | ((fail_if_success (go_big_may)); (go_step)) | (((with_reducible refine Sl.k_call ?_; (refine s_qt hst (by exact qt_len evX asX inX) ?_))) <;> (try refine nX ?_)))
  go_loopw [3, 4] (fun u v wr => ∃ i : Nat, i ≤ xs.length ∧ v = .int .i64 i ∧ St S (.sl u 5 1 (encI xs.length ++ (xs.take i).flatMap (·.l)).length (u8s (encI xs.length ++ (xs.take i).flatMap (·.l))) :: M) wr) (fun _ v _ => xs.length - (intOf v).toNat)
  case atStart => exact ⟨0, Nat.zero_le _, rfl, by simpa using hst⟩
  case round =>
    clear hst
    obtain ⟨i, hi, rfl, hst⟩ := hrel
    have hu := sl_one hst
    by_cases hlt : i < xs.length
    · have hcl : (encI xs.length ++ (xs.take i).flatMap (·.l)).length = (encI xs.length).length + ((xs.take i).flatMap (·.l)).length := List.length_append
      have htk : (xs.take (i + 1)).flatMap (·.l) = (xs.take i).flatMap (·.l) ++ xs[i].l := by rw [List.take_add_one, List.getElem?_eq_getElem hlt, Option.toList_some, List.flatMap_append, List.flatMap_cons, List.flatMap_nil, List.append_nil]
      have hle := dgs_len hds.out i
      have hdl : xs[i].l.length = 16 := hds.out _ (List.getElem_mem hlt)
      have Htk := Lib.hid htk
      clear htk
      generalize hc : encI xs.length ++ (xs.take i).flatMap (·.l) = c at *
      have Hc := Lib.hid hc
      clear hc
      repeat' (first | ((fail_if_success (go_big_may)); (go_step)) | (((with_reducible refine Sl.k_call ?_; (refine s_qt hst (by exact qt_len evX asX inX) ?_))) <;> (try refine nX ?_)) | (with_reducible refine Sl.gate rfl ?_; (go_step)))
      go_loopw [3, 5] (fun u v wr => ∃ j : Nat, j ≤ 16 ∧ v = .int .i64 j ∧ St S (.sl u 5 1 (c ++ xs[i].l.take j).length (u8s (c ++ xs[i].l.take j)) :: M) wr) (fun _ v _ => 16 - (intOf v).toNat)
      case atStart => exact ⟨0, Nat.zero_le _, rfl, by simpa using hst⟩
      case round =>
        clear hst
        obtain ⟨j, hj, rfl, hst⟩ := hrel
        have hu := sl_one hst
        by_cases hlj : j < 16
        · have hlj2 : j < xs[i].l.length := by omega
          have hcl2 : (c ++ xs[i].l.take j).length = c.length + j := by rw [List.length_append, List.length_take]; omega
          have htk2 : c ++ xs[i].l.take (j + 1) = (c ++ xs[i].l.take j) ++ [xs[i].l[j]] := by rw [List.take_add_one, List.getElem?_eq_getElem hlj2, Option.toList_some, List.append_assoc]
          have Htk2 := Lib.hid htk2
          clear htk2
          repeat' (first | ((fail_if_success (go_big_may)); (go_step)) | ((first | (with_reducible refine Sl.k_load ?_; (refine s_qt hst (by exact qt_ldp_u8 evX asX inX) ?_)) | (with_reducible refine Sl.k_index ?_; (((first | refine s_ex hst (qt_index evX asX rfl inX inX omX omX) ?_ | refine s_ex hst (qt_indexAp evX asX rfl inX inX rfl omX omX) ?_); rintro v hp; (try simp only [Int.toNat_natCast, Int.toNat_natCast_add_one, Int.reduceToNat] at hp))))) <;> (try refine nX ?_)) | (with_reducible refine Sl.gate rfl ?_; (go_step)))
          refine s_lit (vs := [.int .u8 ((xs[i].l[j].toNat : Nat) : Int)]) hst inX inX rfl rfl (by simp [Value.cells]) rfl (by omega) (by omega) ?_
          clear hst; intro u w hst
          refine nX ?_
          repeat' (fail)
          refine s_append (j := 0) hst evX evX SlIn.h rfl inX inX inX (by simp [Value.cells, Value.oneCell']) (by omega) (by omega) (by decide) ?_
          clear hst; intro v' w hst
          refine nX ?_
          (try replace hst := nH hst)
          replace hst := hst.drop
          repeat' (first | ((fail_if_success (go_big_may)); (go_step)) | (with_reducible refine Sl.gate rfl ?_; (go_step)))
          go_roundw
          case rel =>
            refine ⟨j + 1, by omega, by go_num, ?_⟩
            rw [Htk2.out, u8s_snoc, List.length_append]
            exact hst
          case measure => simp [intOf]; omega
        · repeat' (first | ((fail_if_success (go_big_may)); (go_step)) | (with_reducible refine Sl.gate rfl ?_; (go_step)))
          go_roundw
          case rel =>
            refine ⟨i + 1, by omega, by go_num, ?_⟩
            rw [Htk.out, ← List.append_assoc, Hc.out]
            rw [List.take_of_length_le (by omega)] at hst
            exact hst
          case measure => simp [intOf]; omega
    · repeat' (first | ((fail_if_success (go_big_may)); (go_step)) | (((with_reducible refine Sl.k_call ?_; (refine s_qt hst (by exact qt_len evX asX inX) ?_))) <;> (try refine nX ?_)) | (with_reducible refine Sl.gate rfl ?_; (go_step)))
      go_ret
      refine ⟨_, rfl, ?_⟩
      rw [encD]
      rw [List.take_of_length_le (by omega)] at hst
      exact hst

end Go.Proofs.YtlimhgamebnfeaaDoor

/- The reference's SHA-256: words. -/
--@u32
--@hgp
--@idxv
namespace Go.Proofs.YtlimhgamebnfeaaDoor
set_option linter.unusedSimpArgs false
set_option linter.unusedVariables false
open Go.RowKit Go.Sl

set_option maxRecDepth 8000 in
set_option maxHeartbeats 400000 in
theorem rot_c {S M} (w : World) (hst : St S M w) (x : UInt32) (n : Nat) (h1 : n ≤ 32) :
    Rets Tryd.prog 106 [.int .u32 (x.toNat : Int), .int .i64 (n : Int)] w fun v w' => v = .int .u32 ((rotN x n).toNat : Int) ∧ St S M w' := by
  unfold Rets
  go_enter Tryd.func106, Tryd.ntmps106
  repeat' (((fail_if_success (go_big_may)); (go_step)))
  refine v_begin hst (by kernel_rfl) ?_; clear hst; intro ops; (try refine nY ?_)
  (refine t_qt 0 rfl (by kernel_rfl) rfl rfl (by exact qt_move evX) ?_) <;> (try refine nY ?_)
  (refine t_qt 1 rfl (by kernel_rfl) rfl rfl (by exact qt_move evX) ?_) <;> (try refine nY ?_)
  (refine t_qt 2 rfl (by kernel_rfl) rfl rfl (by exact qt_shr32 rfl rfl omX) ?_) <;> (try refine nY ?_)
  (refine t_qt 3 rfl (by kernel_rfl) rfl rfl (by exact qt_move evX) ?_) <;> (try refine nY ?_)
  (refine t_qt 4 rfl (by kernel_rfl) rfl rfl (by exact qt_move evX) ?_) <;> (try refine nY ?_)
  (refine t_qt 5 rfl (by kernel_rfl) rfl rfl (by exact qt_sub' rfl rfl omX) ?_) <;> (try refine nY ?_)
  (refine t_qt 6 rfl (by kernel_rfl) rfl rfl (by exact qt_shl32 rfl rfl omX) ?_) <;> (try refine nY ?_)
  (refine t_qt 7 rfl (by kernel_rfl) rfl rfl (by exact qt_or32 rfl rfl) ?_) <;> (try refine nY ?_)
  (refine t_qt 8 rfl (by kernel_rfl) rfl rfl (by exact qt_assign evX) ?_) <;> (try refine nY ?_)
  refine v_done (by kernel_rfl) ?_; clear ops; intro w hst
  repeat' (((fail_if_success (go_big_may)); (go_step)))
  go_ret
  exact ⟨_, rfl, by rw [rotN, UInt32.or_comm, show ((32 : Int) - (n : Int)).toNat = 32 - n by omega]; rfl, hst⟩

def hexd (x : UInt8) : Nat := if 97 ≤ x.toNat then x.toNat - 87 else x.toNat - 48
def isHex (x : UInt8) : Prop := (48 ≤ x.toNat ∧ x.toNat ≤ 57) ∨ (97 ≤ x.toNat ∧ x.toNat ≤ 102)
instance (x : UInt8) : Decidable (isHex x) := inferInstanceAs (Decidable (_ ∨ _))
theorem hexd_lt {x : UInt8} (h : isHex x) : hexd x < 16 := by unfold hexd; unfold isHex at h; split <;> omega
def wordN (s : List UInt8) : Nat := s.foldl (fun w x => 16 * w + hexd x) 0
theorem wordN_snoc (s : List UInt8) (x : UInt8) : wordN (s ++ [x]) = 16 * wordN s + hexd x := by rw [wordN, List.foldl_append]; rfl
theorem wordN_lt : ∀ (n : Nat) (s : List UInt8), s.length = n → (∀ x ∈ s, isHex x) → wordN s < 16 ^ n
  | 0, s, h, _ => by rw [List.eq_nil_of_length_eq_zero h]; decide
  | n + 1, s, h, hs => by
    have hne : s ≠ [] := fun e => by rw [e] at h; cases h
    obtain ⟨x, hx⟩ : ∃ x, s.getLast hne = x := ⟨_, rfl⟩
    have e := List.dropLast_concat_getLast hne
    rw [hx] at e
    have hl : s.dropLast.length = n := by rw [List.length_dropLast, h]; rfl
    have ih := wordN_lt n s.dropLast hl fun y hy => hs y (by rw [← e]; exact List.mem_append_left _ hy)
    have hd := hexd_lt (hs x (by rw [← e]; simp))
    rw [← e, wordN_snoc, Nat.pow_succ]
    omega
def wordAt (s : List UInt8) (i : Nat) : Nat := wordN ((s.drop (8 * i)).take 8)

set_option maxRecDepth 8000 in
set_option maxHeartbeats 400000 in
theorem word_c {S M} (w : World) (hst : St S M w) (s : List UInt8) (i : Nat) (hs : 8 * i + 8 ≤ s.length) (hh : ∀ x ∈ s, isHex x) (hm : s.length ≤ 1000) :
    Rets Tryd.prog 105 [.string ⟨s.toArray⟩, .int .i64 (i : Int)] w fun v w' => v = .int .u32 (wordAt s i : Int) ∧ St S M w' := by
  unfold Rets
  go_enter Tryd.func105, Tryd.ntmps105
  repeat' (first | ((fail_if_success (go_big_may)); (go_step)) | (with_reducible refine Sl.gate rfl ?_; (go_step)))
  go_loopw [5, 6] (fun u v wr => ∃ (k : Int) (j W : Nat), k = 8 * i + j ∧ j ≤ 8 ∧ v = .int .i64 k ∧ u = .int .u32 (W : Int) ∧ Hid (W = wordN ((s.drop (8 * i)).take j)) ∧ St S M wr) (fun _ v _ => 8 * i + 8 - (intOf v).toNat)
  case atStart => exact ⟨_, 0, 0, by omega, by omega, rfl, rfl, Lib.hid rfl, hst⟩
  case round =>
    clear hst
    obtain ⟨k, j, W, hk, hj, rfl, rfl, hW, hst⟩ := hrel
    by_cases hlt : j < 8
    · have hkl : k.toNat < s.length := by omega
      have hx := hh s[k.toNat] (List.getElem_mem hkl)
      have hjl : j < (s.drop (8 * i)).length := by rw [List.length_drop]; omega
      have hg : (s.drop (8 * i))[j] = s[k.toNat] := by rw [List.getElem_drop]; congr 1; omega
      have hW1 : W < 16 ^ j := by
        rw [hW.out]
        exact wordN_lt j _ (by rw [List.length_take]; omega) fun x hx => hh x (List.mem_of_mem_drop (List.mem_of_mem_take hx))
      have hW2 : W < 268435456 := Nat.lt_of_lt_of_le hW1 (Nat.le_trans (Nat.pow_le_pow_right (by decide) (show j ≤ 7 by omega)) (by decide))
      have hd := hexd_lt hx
      have hnext : Hid (16 * W + hexd s[k.toNat] = wordN ((s.drop (8 * i)).take (j + 1))) := Lib.hid (by rw [List.take_succ_eq_append_getElem hjl, wordN_snoc, ← hW.out, hg])
      have hk2 : ¬ 8 * (i : Int) + 8 ≤ k := by omega
      clear hW1 hg hjl
      have Hk := Lib.hid hk
      have hk3 : 0 ≤ k ∧ k ≤ 1000 := by omega
      clear hk
      by_cases h97 : 97 ≤ s[k.toNat].toNat
      · have hx2 : s[k.toNat].toNat ≤ 102 := by unfold isHex at hx; omega
        have hde : Hid (hexd s[k.toNat] = s[k.toNat].toNat - 87) := Lib.hid (if_pos h97)
        clear hx
        repeat' (first | (((with_reducible (refine Sl.k_conv ?_; refine s_qt hst (qt_convI832 rfl inX inX omX) ?_))) <;> (try refine nY ?_)) | (with_reducible refine Sl.k_bin ?_; (refine s_qt hst (by first | exact qt_sub8 rfl rfl omX | exact qt_add8 rfl rfl omX | exact qt_mulI32 rfl rfl omX | exact qt_addI32 rfl rfl omX) ?_)) | (((with_reducible refine Sl.k_indexV ?_; (refine s_qt hst (by exact qt_indexS evX evX StrT.u omX omX) ?_))) <;> (try refine nY ?_)) | ((fail_if_success (go_big_may)); (go_step)) | (with_reducible refine Sl.gate rfl ?_; (go_step)))
        go_roundw
        case rel => exact ⟨k + 1, j + 1, 16 * W + hexd s[k.toNat], by have := Hk.out; omega, by omega, by go_num, by rw [hde.out]; congr 1; omega, hnext, hst⟩
        case measure => simp [intOf]; omega
      · have hx2 : 48 ≤ s[k.toNat].toNat ∧ s[k.toNat].toNat ≤ 57 := by unfold isHex at hx; omega
        have hde : Hid (hexd s[k.toNat] = s[k.toNat].toNat - 48) := Lib.hid (if_neg h97)
        clear hx
        repeat' (first | (((with_reducible (refine Sl.k_conv ?_; refine s_qt hst (qt_convI832 rfl inX inX omX) ?_))) <;> (try refine nY ?_)) | (with_reducible refine Sl.k_bin ?_; (refine s_qt hst (by first | exact qt_sub8 rfl rfl omX | exact qt_mulI32 rfl rfl omX | exact qt_addI32 rfl rfl omX) ?_)) | (((with_reducible refine Sl.k_indexV ?_; (refine s_qt hst (by exact qt_indexS evX evX StrT.u omX omX) ?_))) <;> (try refine nY ?_)) | ((fail_if_success (go_big_may)); (go_step)) | (with_reducible refine Sl.gate rfl ?_; (go_step)))
        go_roundw
        case rel => exact ⟨k + 1, j + 1, 16 * W + hexd s[k.toNat], by have := Hk.out; omega, by omega, by go_num, by rw [hde.out]; congr 1; omega, hnext, hst⟩
        case measure => simp [intOf]; omega
    · obtain rfl : j = 8 := by omega
      have hk2 : 8 * (i : Int) + 8 ≤ k := by omega
      clear hk
      repeat' (first | ((fail_if_success (go_big_may)); (go_step)) | (with_reducible refine Sl.gate rfl ?_; (go_step)))
      go_ret
      exact ⟨_, rfl, by rw [hW.out]; rfl, hst⟩

def wordsL (s : List UInt8) (n : Nat) : List UInt32 := (List.range n).map fun i => UInt32.ofNat (wordAt s i)
theorem wordsL_snoc (s : List UInt8) (n : Nat) : wordsL s (n + 1) = wordsL s n ++ [UInt32.ofNat (wordAt s n)] := by rw [wordsL, List.range_succ, List.map_append]; rfl

set_option maxRecDepth 8000 in
set_option maxHeartbeats 400000 in
theorem words_c {S M} (w : World) (hst : St S M w) (s : List UInt8) (n : Nat) (hs : 8 * n ≤ s.length) (hh : ∀ x ∈ s, isHex x) (hm : s.length ≤ 1000) :
    Rets Tryd.prog 94 [.string ⟨s.toArray⟩, .int .i64 (n : Int)] w fun v w' => St S (.sl v 135 1 (wordsL s n).length (cF u32C (wordsL s n)) :: M) w' := by
  unfold Rets
  go_enter Tryd.func94, Tryd.ntmps94
  repeat' (((fail_if_success (go_big_may)); (go_step)))
  go_loopw [5, 6] (fun u v wr => ∃ (i : Nat) (c : List UInt32), i ≤ n ∧ v = .int .i64 i ∧ Hid (c = wordsL s i) ∧ c.length ≤ i ∧ u.oneCell' = true ∧ St S (.sl u 135 1 c.length (cF u32C c) :: M) wr) (fun _ v _ => n - (intOf v).toNat)
  case atStart => exact ⟨0, [], Nat.zero_le _, rfl, Lib.hid rfl, Nat.le_refl _, rfl, hst.nil _ 1⟩
  case round =>
    clear hst
    obtain ⟨i, c, hi, rfl, hc, hcl, hone, hst⟩ := hrel
    by_cases hlt : i < n
    · have h8 : 8 * i + 8 ≤ s.length := by omega
      have hW : wordAt s i < 4294967296 := wordN_lt 8 _ (by rw [List.length_take, List.length_drop]; omega) fun x hx => hh x (List.mem_of_mem_drop (List.mem_of_mem_take hx))
      have hE : ((wordAt s i : Nat) : Int) = ((UInt32.ofNat (wordAt s i)).toNat : Int) := by rw [UInt32.toNat_ofNat_of_lt' (by have : UInt32.size = 4294967296 := rfl; omega)]
      have hsn := Lib.hid (wordsL_snoc s i)
      have cw := fun {S M} (w : World) (hst : St S M w) => word_c w hst s i h8 hh hm
      rw [hE] at cw
      generalize UInt32.ofNat (wordAt s i) = x at *
      clear hE hW
      repeat' (first | (((with_reducible refine Sl.k_call ?_; ((refine s_call (cw _ hst) inX rfl ?_; clear hst; rintro v w ⟨rfl, hst⟩)))) <;> (try refine nY ?_) <;> (try replace hst := nH hst)) | ((fail_if_success (go_big_may)); (go_step)) | (with_reducible refine Sl.gate rfl ?_; (go_step)))
      refine s_lit (vs := [.int .u32 (x.toNat : Int)]) hst inX inX rfl rfl (by simp [Value.cells]) rfl (by omega) (by omega) ?_
      clear hst; intro u w hst
      refine nY ?_
      repeat' (fail)
      refine s_append (j := 0) hst evX evX SlIn.h rfl inX inX inX (by simp [Value.cells, Value.oneCell']) (by omega) (by omega) (by decide) ?_
      clear hst; intro v' w hst
      refine nY ?_
      (try replace hst := nH hst)
      replace hst := hst.drop
      repeat' (first | ((fail_if_success (go_big_may)); (go_step)) | (with_reducible refine Sl.gate rfl ?_; (go_step)))
      have hone' := sl_one hst
      go_roundw
      case rel => exact ⟨i + 1, c ++ [x], by omega, by go_num, Lib.hid (by rw [hsn.out, hc.out]), by simp; omega, hone', by rw [List.length_append, cF_snoc]; exact hst⟩
      case measure => simp [intOf]; omega
    · obtain rfl : i = n := by omega
      repeat' (first | ((fail_if_success (go_big_may)); (go_step)) | (with_reducible refine Sl.gate rfl ?_; (go_step)))
      go_ret
      exact ⟨_, rfl, by rw [← hc.out]; exact hst⟩
end Go.Proofs.YtlimhgamebnfeaaDoor

/- The reference's SHA-256: one block. -/
--@u32
--@hgp
--@ex0
namespace Go.Proofs.YtlimhgamebnfeaaDoor
set_option linter.unusedSimpArgs false
set_option linter.unusedVariables false
open Go.RowKit Go.Sl

theorem rotI_c {S M} (w : World) (hst : St S M w) (x : UInt32) (n : Int) (h1 : 0 ≤ n ∧ n ≤ 32) :
    Rets Tryd.prog 106 [.int .u32 (x.toNat : Int), .int .i64 n] w fun v w' => v = .int .u32 ((rotN x n.toNat).toNat : Int) ∧ St S M w' := by
  obtain ⟨m, rfl⟩ : ∃ m : Nat, n = m := ⟨n.toNat, by omega⟩
  exact rot_c w hst x m (by omega)
theorem rots2 (x : UInt32) (a b : Nat) : rots x [a, b] = rotN x a ^^^ rotN x b := by simp [rots]
theorem rots3 (x : UInt32) (a b c : Nat) : rots x [a, b, c] = rotN x a ^^^ rotN x b ^^^ rotN x c := by simp [rots]
theorem sched1_hi (blk : List UInt8) (ws : List UInt32) {i : Nat} (h : ¬ i < 16) : sched1 blk ws i = ws.getD (i - 16) 0 + (rotN (ws.getD (i - 15) 0) 7 ^^^ rotN (ws.getD (i - 15) 0) 18 ^^^ shr (ws.getD (i - 15) 0) 3) + ws.getD (i - 7) 0 + (rotN (ws.getD (i - 2) 0) 17 ^^^ rotN (ws.getD (i - 2) 0) 19 ^^^ shr (ws.getD (i - 2) 0) 10) := by
  rw [sched1, if_neg h, rots2, rots2]
theorem loadW4 (a b c d : UInt8) : loadW [a, b, c, d] = shl (UInt32.ofNat a.toNat) 24 ||| shl (UInt32.ofNat b.toNat) 16 ||| shl (UInt32.ofNat c.toNat) 8 ||| UInt32.ofNat d.toNat := by
  have hs : ∀ (x y : UInt32) (n : Nat), shl (x ||| y) n = shl x n ||| shl y n := fun x y n => by
    apply UInt32.toBitVec_inj.1
    show (x.toBitVec ||| y.toBitVec) <<< n = _
    rw [BitVec.shiftLeft_or_distrib]
    rfl
  have ha : ∀ (x : UInt32) (n m : Nat), shl (shl x n) m = shl x (n + m) := fun x n m => by
    apply UInt32.toBitVec_inj.1
    show (x.toBitVec <<< n) <<< m = _
    rw [← BitVec.shiftLeft_add]
    rfl
  have h0 : ∀ n : Nat, shl 0 n = 0 := fun n => by
    apply UInt32.toBitVec_inj.1
    show (0 : BitVec 32) <<< n = 0
    simp
  simp only [loadW, List.foldl_cons, List.foldl_nil, hs, ha, h0, UInt32.zero_or]
theorem sched1_lo {blk : List UInt8} (ws : List UInt32) {i : Nat} (h : i < 16) (hl : 4 * i + 3 < blk.length) :
    sched1 blk ws i = shl (UInt32.ofNat blk[4 * i].toNat) 24 ||| shl (UInt32.ofNat blk[4 * i + 1].toNat) 16 ||| shl (UInt32.ofNat blk[4 * i + 2].toNat) 8 ||| UInt32.ofNat blk[4 * i + 3].toNat := by
  rw [sched1, if_pos h, ← loadW4]
  congr 1
  rw [List.drop_eq_getElem_cons (by omega), List.drop_eq_getElem_cons (show 4 * i + 1 < blk.length by omega), List.drop_eq_getElem_cons (show 4 * i + 1 + 1 < blk.length by omega), List.drop_eq_getElem_cons (show 4 * i + 1 + 1 + 1 < blk.length by omega)]
  rfl
theorem getD_get {α : Type} {l : List α} {i : Nat} (h : i < l.length) (d : α) : l.getD i d = l[i] := by rw [List.getD_eq_getElem?_getD, List.getElem?_eq_getElem h]; rfl

set_option maxRecDepth 100000 in
set_option maxHeartbeats 4000000 in
theorem refComp_c {S M} (w : World) (hst : St S M w) (vv vb vk : Value) (h : S8) (blk : List UInt8) (hv : RSl S vv h.l) (hb : RSl S vb blk) (hk : RSl S vk kList) (hl : blk.length = 64) :
    Rets Tryd.prog 95 [vv, vb, vk] w fun v w' => St S (.sl v 135 1 8 (s8C (comp h blk)) :: M) w' := by
  unfold Rets
  have h64 : 64 ≤ blk.length ∧ blk.length ≤ 64 := by omega
  have hvl : 8 ≤ h.l.length := Nat.le_refl 8
  clear hl
  go_enter Tryd.func95, Tryd.ntmps95
  repeat' (((fail_if_success (go_big_may)); (go_step)))
  refine s_make (n := 64) hst (by infer_instance) (by infer_instance) evX evX (by omega) (by omega) ?_
  clear hst; intro vw w hst
  have hst : St S (.sl vw 135 1 64 (cF u32C (sched blk 0)) :: M) w := by rw [zero64]; exact hst
  have hvw := sl_one hst
  refine nY ?_
  repeat' (((fail_if_success (go_big_may)); (go_step)))
  go_loopw [8] (fun v wr => ∃ (i : Nat) (ws : List UInt32), i ≤ 16 ∧ v = .int .i64 i ∧ Hid (ws = sched blk i) ∧ (64 ≤ ws.length ∧ ws.length ≤ 64) ∧ St S (.sl vw 135 1 64 (cF u32C ws) :: M) wr) (fun v _ => 16 - (intOf v).toNat)
  case atStart => exact ⟨0, _, by omega, rfl, Lib.hid rfl, by rw [sched_len]; omega, hst⟩
  case round =>
    clear hst
    obtain ⟨i, ws, hi, rfl, hws, hwl, hst⟩ := hrel
    by_cases hlt : i < 16
    · have hE := Lib.hid (sched1_lo (blk := blk) ws hlt (by omega))
      repeat' (first | ((fail_if_success (go_big_may)); (go_step)) | (with_reducible refine Sl.gate rfl ?_; (go_step)))
      refine v_begin hst (by kernel_rfl) ?_; clear hst; intro ops; (try refine nY ?_)
      (refine t_qt 0 rfl (by kernel_rfl) rfl rfl (by exact qt_move evX) ?_) <;> (try refine nY ?_)
      (refine t_qt 1 rfl (by kernel_rfl) rfl rfl (by exact qt_move evX) ?_) <;> (try refine nY ?_)
      (refine t_qt 2 rfl (by kernel_rfl) rfl rfl (by exact qt_move evX) ?_) <;> (try refine nY ?_)
      (refine t_qt 3 rfl (by kernel_rfl) rfl rfl (by exact qt_move evX) ?_) <;> (try refine nY ?_)
      (refine t_qt 4 rfl (by kernel_rfl) rfl rfl (by exact qt_mul' rfl rfl omX) ?_) <;> (try refine nY ?_)
      ((refine t_ex0 5 rfl (by kernel_rfl) rfl rfl (qt_index evX asX rfl inX inX omX omX) ?_; rintro v hp; (try simp only [Int.toNat_natCast, Int.toNat_natCast_add_one, Int.reduceToNat] at hp))) <;> (try refine nY ?_)
      (refine t_qt 6 rfl (by kernel_rfl) rfl rfl (by exact qt_ldp_u8 evX asX inX) ?_) <;> (try refine nY ?_)
      (refine t_qt 7 rfl (by kernel_rfl) rfl rfl (by exact qt_conv832 rfl inX inX) ?_) <;> (try refine nY ?_)
      (refine t_qt 8 rfl (by kernel_rfl) rfl rfl (by exact qt_shl32 rfl rfl omX) ?_) <;> (try refine nY ?_)
      (refine t_qt 9 rfl (by kernel_rfl) rfl rfl (by exact qt_move evX) ?_) <;> (try refine nY ?_)
      (refine t_qt 10 rfl (by kernel_rfl) rfl rfl (by exact qt_move evX) ?_) <;> (try refine nY ?_)
      (refine t_qt 11 rfl (by kernel_rfl) rfl rfl (by exact qt_mul' rfl rfl omX) ?_) <;> (try refine nY ?_)
      (refine t_qt 12 rfl (by kernel_rfl) rfl rfl (by exact qt_add' rfl rfl omX) ?_) <;> (try refine nY ?_)
      ((refine t_ex0 13 rfl (by kernel_rfl) rfl rfl (qt_index evX asX rfl inX inX omX omX) ?_; rintro v hp; (try simp only [Int.toNat_natCast, Int.toNat_natCast_add_one, Int.reduceToNat] at hp))) <;> (try refine nY ?_)
      (refine t_qt 14 rfl (by kernel_rfl) rfl rfl (by exact qt_ldp_u8 evX asX inX) ?_) <;> (try refine nY ?_)
      (refine t_qt 15 rfl (by kernel_rfl) rfl rfl (by exact qt_conv832 rfl inX inX) ?_) <;> (try refine nY ?_)
      (refine t_qt 16 rfl (by kernel_rfl) rfl rfl (by exact qt_shl32 rfl rfl omX) ?_) <;> (try refine nY ?_)
      (refine t_qt 17 rfl (by kernel_rfl) rfl rfl (by exact qt_or32 rfl rfl) ?_) <;> (try refine nY ?_)
      (refine t_qt 18 rfl (by kernel_rfl) rfl rfl (by exact qt_move evX) ?_) <;> (try refine nY ?_)
      (refine t_qt 19 rfl (by kernel_rfl) rfl rfl (by exact qt_move evX) ?_) <;> (try refine nY ?_)
      (refine t_qt 20 rfl (by kernel_rfl) rfl rfl (by exact qt_mul' rfl rfl omX) ?_) <;> (try refine nY ?_)
      (refine t_qt 21 rfl (by kernel_rfl) rfl rfl (by exact qt_add' rfl rfl omX) ?_) <;> (try refine nY ?_)
      ((refine t_ex0 22 rfl (by kernel_rfl) rfl rfl (qt_index evX asX rfl inX inX omX omX) ?_; rintro v hp; (try simp only [Int.toNat_natCast, Int.toNat_natCast_add_one, Int.reduceToNat] at hp))) <;> (try refine nY ?_)
      (refine t_qt 23 rfl (by kernel_rfl) rfl rfl (by exact qt_ldp_u8 evX asX inX) ?_) <;> (try refine nY ?_)
      (refine t_qt 24 rfl (by kernel_rfl) rfl rfl (by exact qt_conv832 rfl inX inX) ?_) <;> (try refine nY ?_)
      (refine t_qt 25 rfl (by kernel_rfl) rfl rfl (by exact qt_shl32 rfl rfl omX) ?_) <;> (try refine nY ?_)
      (refine t_qt 26 rfl (by kernel_rfl) rfl rfl (by exact qt_or32 rfl rfl) ?_) <;> (try refine nY ?_)
      (refine t_qt 27 rfl (by kernel_rfl) rfl rfl (by exact qt_move evX) ?_) <;> (try refine nY ?_)
      (refine t_qt 28 rfl (by kernel_rfl) rfl rfl (by exact qt_move evX) ?_) <;> (try refine nY ?_)
      (refine t_qt 29 rfl (by kernel_rfl) rfl rfl (by exact qt_mul' rfl rfl omX) ?_) <;> (try refine nY ?_)
      (refine t_qt 30 rfl (by kernel_rfl) rfl rfl (by exact qt_add' rfl rfl omX) ?_) <;> (try refine nY ?_)
      ((refine t_ex0 31 rfl (by kernel_rfl) rfl rfl (qt_index evX asX rfl inX inX omX omX) ?_; rintro v hp; (try simp only [Int.toNat_natCast, Int.toNat_natCast_add_one, Int.reduceToNat] at hp))) <;> (try refine nY ?_)
      (refine t_qt 32 rfl (by kernel_rfl) rfl rfl (by exact qt_ldp_u8 evX asX inX) ?_) <;> (try refine nY ?_)
      (refine t_qt 33 rfl (by kernel_rfl) rfl rfl (by exact qt_conv832 rfl inX inX) ?_) <;> (try refine nY ?_)
      (refine t_qt 34 rfl (by kernel_rfl) rfl rfl (by exact qt_or32 rfl rfl) ?_) <;> (try refine nY ?_)
      ((refine t_ex 35 rfl (by kernel_rfl) rfl rfl (fun w hst => qt_index_own hst evX SlIn.h rfl inX inX omX omX) ?_; rintro v hp; (try simp only [Int.toNat_natCast, Int.toNat_natCast_add_one, Int.reduceToNat] at hp))) <;> (try refine nY ?_)
      refine v_one 36 rfl (by kernel_rfl) ?_; intro w hst K hK; (refine s_stU hst evX asX SlIn.h inX evX omX ?_); clear hst; intro w hst; (try refine nY ?_); (try replace hst := nH hst); refine v_last hK hst ?_; clear hst hK K; (try clear w); (try refine nY ?_)
      refine v_done (by kernel_rfl) ?_; clear ops; intro w hst
      repeat' (first | ((fail_if_success (go_big_may)); (go_step)) | (with_reducible refine Sl.gate rfl ?_; (go_step)))
      have e0 : (4 * (i : Int)).toNat = 4 * i := by omega
      have e1 : (4 * (i : Int) + 1).toNat = 4 * i + 1 := by omega
      have e2 : (4 * (i : Int) + 2).toNat = 4 * i + 2 := by omega
      have e3 : (4 * (i : Int) + 3).toNat = 4 * i + 3 := by omega
      simp only [e0, e1, e2, e3] at hst

      go_roundw
      case rel => exact ⟨i + 1, _, by omega, by go_num, Lib.hid (by rw [sched, ← hws.out, hE.out]), by rw [List.length_set]; omega, hst⟩
      case measure => simp [intOf]; omega
    · obtain rfl : i = 16 := by omega
      repeat' (first | ((fail_if_success (go_big_may)); (go_step)) | (with_reducible refine Sl.gate rfl ?_; (go_step)))
      clear hi hlt
      go_loopw [9] (fun v wr => ∃ (i : Nat) (ws : List UInt32), (16 ≤ i ∧ i ≤ 64) ∧ v = .int .i64 i ∧ Hid (ws = sched blk i) ∧ (64 ≤ ws.length ∧ ws.length ≤ 64) ∧ St S (.sl vw 135 1 64 (cF u32C ws) :: M) wr) (fun v _ => 64 - (intOf v).toNat)
      case atStart => exact ⟨16, _, by omega, rfl, hws, hwl, hst⟩
      case round =>
        clear hst hws hwl ws
        obtain ⟨i, ws, hi, rfl, hws, hwl, hst⟩ := hrel
        by_cases hlt : i < 64
        · have hE := Lib.hid (sched1_hi blk ws (show ¬ i < 16 by omega))
          repeat' (first | ((fail_if_success (go_big_may)); (go_step)) | (with_reducible refine Sl.gate rfl ?_; (go_step)))
          refine v_begin hst (by kernel_rfl) ?_; clear hst; intro ops; (try refine nY ?_)
          (refine t_qt 0 rfl (by kernel_rfl) rfl rfl (by exact qt_move evX) ?_) <;> (try refine nY ?_)
          (refine t_qt 1 rfl (by kernel_rfl) rfl rfl (by exact qt_move evX) ?_) <;> (try refine nY ?_)
          (refine t_qt 2 rfl (by kernel_rfl) rfl rfl (by exact qt_sub' rfl rfl omX) ?_) <;> (try refine nY ?_)
          ((refine t_ex 3 rfl (by kernel_rfl) rfl rfl (fun w hst => qt_index_own hst evX SlIn.h rfl inX inX omX omX) ?_; rintro v hp; (try simp only [Int.toNat_natCast, Int.toNat_natCast_add_one, Int.reduceToNat] at hp))) <;> (try refine nY ?_)
          (refine t_qt 4 rfl (by kernel_rfl) rfl rfl (by exact qt_ldU evX asX SlIn.h inX omX) ?_) <;> (try refine nY ?_)
          (refine t_call 5 rfl (by kernel_rfl) rfl (fun S' M' w hS hM hst => rotI_c w hst _ _ (by decide)) inX rfl ?_) <;> (try refine nY ?_)
          (refine t_qt 6 rfl (by kernel_rfl) rfl rfl (by exact qt_move evX) ?_) <;> (try refine nY ?_)
          (refine t_qt 7 rfl (by kernel_rfl) rfl rfl (by exact qt_move evX) ?_) <;> (try refine nY ?_)
          (refine t_qt 8 rfl (by kernel_rfl) rfl rfl (by exact qt_sub' rfl rfl omX) ?_) <;> (try refine nY ?_)
          ((refine t_ex 9 rfl (by kernel_rfl) rfl rfl (fun w hst => qt_index_own hst evX SlIn.h rfl inX inX omX omX) ?_; rintro v hp; (try simp only [Int.toNat_natCast, Int.toNat_natCast_add_one, Int.reduceToNat] at hp))) <;> (try refine nY ?_)
          (refine t_qt 10 rfl (by kernel_rfl) rfl rfl (by exact qt_ldU evX asX SlIn.h inX omX) ?_) <;> (try refine nY ?_)
          (refine t_call 11 rfl (by kernel_rfl) rfl (fun S' M' w hS hM hst => rotI_c w hst _ _ (by decide)) inX rfl ?_) <;> (try refine nY ?_)
          (refine t_qt 12 rfl (by kernel_rfl) rfl rfl (by exact qt_xor32 rfl rfl) ?_) <;> (try refine nY ?_)
          (refine t_qt 13 rfl (by kernel_rfl) rfl rfl (by exact qt_move evX) ?_) <;> (try refine nY ?_)
          (refine t_qt 14 rfl (by kernel_rfl) rfl rfl (by exact qt_move evX) ?_) <;> (try refine nY ?_)
          (refine t_qt 15 rfl (by kernel_rfl) rfl rfl (by exact qt_sub' rfl rfl omX) ?_) <;> (try refine nY ?_)
          ((refine t_ex 16 rfl (by kernel_rfl) rfl rfl (fun w hst => qt_index_own hst evX SlIn.h rfl inX inX omX omX) ?_; rintro v hp; (try simp only [Int.toNat_natCast, Int.toNat_natCast_add_one, Int.reduceToNat] at hp))) <;> (try refine nY ?_)
          (refine t_qt 17 rfl (by kernel_rfl) rfl rfl (by exact qt_ldU evX asX SlIn.h inX omX) ?_) <;> (try refine nY ?_)
          (refine t_qt 18 rfl (by kernel_rfl) rfl rfl (by exact qt_shr32 rfl rfl omX) ?_) <;> (try refine nY ?_)
          (refine t_qt 19 rfl (by kernel_rfl) rfl rfl (by exact qt_xor32 rfl rfl) ?_) <;> (try refine nY ?_)
          (refine t_qt 20 rfl (by kernel_rfl) rfl rfl (by exact qt_assign evX) ?_) <;> (try refine nY ?_)
          refine v_done (by kernel_rfl) ?_; clear ops; intro w hst
          repeat' (((fail_if_success (go_big_may)); (go_step)))
          refine v_begin hst (by kernel_rfl) ?_; clear hst; intro ops; (try refine nY ?_)
          (refine t_qt 0 rfl (by kernel_rfl) rfl rfl (by exact qt_move evX) ?_) <;> (try refine nY ?_)
          (refine t_qt 1 rfl (by kernel_rfl) rfl rfl (by exact qt_move evX) ?_) <;> (try refine nY ?_)
          (refine t_qt 2 rfl (by kernel_rfl) rfl rfl (by exact qt_sub' rfl rfl omX) ?_) <;> (try refine nY ?_)
          ((refine t_ex 3 rfl (by kernel_rfl) rfl rfl (fun w hst => qt_index_own hst evX SlIn.h rfl inX inX omX omX) ?_; rintro v hp; (try simp only [Int.toNat_natCast, Int.toNat_natCast_add_one, Int.reduceToNat] at hp))) <;> (try refine nY ?_)
          (refine t_qt 4 rfl (by kernel_rfl) rfl rfl (by exact qt_ldU evX asX SlIn.h inX omX) ?_) <;> (try refine nY ?_)
          (refine t_call 5 rfl (by kernel_rfl) rfl (fun S' M' w hS hM hst => rotI_c w hst _ _ (by decide)) inX rfl ?_) <;> (try refine nY ?_)
          (refine t_qt 6 rfl (by kernel_rfl) rfl rfl (by exact qt_move evX) ?_) <;> (try refine nY ?_)
          (refine t_qt 7 rfl (by kernel_rfl) rfl rfl (by exact qt_move evX) ?_) <;> (try refine nY ?_)
          (refine t_qt 8 rfl (by kernel_rfl) rfl rfl (by exact qt_sub' rfl rfl omX) ?_) <;> (try refine nY ?_)
          ((refine t_ex 9 rfl (by kernel_rfl) rfl rfl (fun w hst => qt_index_own hst evX SlIn.h rfl inX inX omX omX) ?_; rintro v hp; (try simp only [Int.toNat_natCast, Int.toNat_natCast_add_one, Int.reduceToNat] at hp))) <;> (try refine nY ?_)
          (refine t_qt 10 rfl (by kernel_rfl) rfl rfl (by exact qt_ldU evX asX SlIn.h inX omX) ?_) <;> (try refine nY ?_)
          (refine t_call 11 rfl (by kernel_rfl) rfl (fun S' M' w hS hM hst => rotI_c w hst _ _ (by decide)) inX rfl ?_) <;> (try refine nY ?_)
          (refine t_qt 12 rfl (by kernel_rfl) rfl rfl (by exact qt_xor32 rfl rfl) ?_) <;> (try refine nY ?_)
          (refine t_qt 13 rfl (by kernel_rfl) rfl rfl (by exact qt_move evX) ?_) <;> (try refine nY ?_)
          (refine t_qt 14 rfl (by kernel_rfl) rfl rfl (by exact qt_move evX) ?_) <;> (try refine nY ?_)
          (refine t_qt 15 rfl (by kernel_rfl) rfl rfl (by exact qt_sub' rfl rfl omX) ?_) <;> (try refine nY ?_)
          ((refine t_ex 16 rfl (by kernel_rfl) rfl rfl (fun w hst => qt_index_own hst evX SlIn.h rfl inX inX omX omX) ?_; rintro v hp; (try simp only [Int.toNat_natCast, Int.toNat_natCast_add_one, Int.reduceToNat] at hp))) <;> (try refine nY ?_)
          (refine t_qt 17 rfl (by kernel_rfl) rfl rfl (by exact qt_ldU evX asX SlIn.h inX omX) ?_) <;> (try refine nY ?_)
          (refine t_qt 18 rfl (by kernel_rfl) rfl rfl (by exact qt_shr32 rfl rfl omX) ?_) <;> (try refine nY ?_)
          (refine t_qt 19 rfl (by kernel_rfl) rfl rfl (by exact qt_xor32 rfl rfl) ?_) <;> (try refine nY ?_)
          (refine t_qt 20 rfl (by kernel_rfl) rfl rfl (by exact qt_assign evX) ?_) <;> (try refine nY ?_)
          refine v_done (by kernel_rfl) ?_; clear ops; intro w hst
          repeat' (((fail_if_success (go_big_may)); (go_step)))
          refine v_begin hst (by kernel_rfl) ?_; clear hst; intro ops; (try refine nY ?_)
          (refine t_qt 0 rfl (by kernel_rfl) rfl rfl (by exact qt_move evX) ?_) <;> (try refine nY ?_)
          (refine t_qt 1 rfl (by kernel_rfl) rfl rfl (by exact qt_move evX) ?_) <;> (try refine nY ?_)
          (refine t_qt 2 rfl (by kernel_rfl) rfl rfl (by exact qt_move evX) ?_) <;> (try refine nY ?_)
          (refine t_qt 3 rfl (by kernel_rfl) rfl rfl (by exact qt_move evX) ?_) <;> (try refine nY ?_)
          (refine t_qt 4 rfl (by kernel_rfl) rfl rfl (by exact qt_sub' rfl rfl omX) ?_) <;> (try refine nY ?_)
          ((refine t_ex 5 rfl (by kernel_rfl) rfl rfl (fun w hst => qt_index_own hst evX SlIn.h rfl inX inX omX omX) ?_; rintro v hp; (try simp only [Int.toNat_natCast, Int.toNat_natCast_add_one, Int.reduceToNat] at hp))) <;> (try refine nY ?_)
          (refine t_qt 6 rfl (by kernel_rfl) rfl rfl (by exact qt_ldU evX asX SlIn.h inX omX) ?_) <;> (try refine nY ?_)
          (refine t_qt 7 rfl (by kernel_rfl) rfl rfl (by exact qt_move evX) ?_) <;> (try refine nY ?_)
          (refine t_qt 8 rfl (by kernel_rfl) rfl rfl (by exact qt_add32 rfl rfl) ?_) <;> (try refine nY ?_)
          (refine t_qt 9 rfl (by kernel_rfl) rfl rfl (by exact qt_move evX) ?_) <;> (try refine nY ?_)
          (refine t_qt 10 rfl (by kernel_rfl) rfl rfl (by exact qt_move evX) ?_) <;> (try refine nY ?_)
          (refine t_qt 11 rfl (by kernel_rfl) rfl rfl (by exact qt_sub' rfl rfl omX) ?_) <;> (try refine nY ?_)
          ((refine t_ex 12 rfl (by kernel_rfl) rfl rfl (fun w hst => qt_index_own hst evX SlIn.h rfl inX inX omX omX) ?_; rintro v hp; (try simp only [Int.toNat_natCast, Int.toNat_natCast_add_one, Int.reduceToNat] at hp))) <;> (try refine nY ?_)
          (refine t_qt 13 rfl (by kernel_rfl) rfl rfl (by exact qt_ldU evX asX SlIn.h inX omX) ?_) <;> (try refine nY ?_)
          (refine t_qt 14 rfl (by kernel_rfl) rfl rfl (by exact qt_add32 rfl rfl) ?_) <;> (try refine nY ?_)
          (refine t_qt 15 rfl (by kernel_rfl) rfl rfl (by exact qt_move evX) ?_) <;> (try refine nY ?_)
          (refine t_qt 16 rfl (by kernel_rfl) rfl rfl (by exact qt_add32 rfl rfl) ?_) <;> (try refine nY ?_)
          ((refine t_ex 17 rfl (by kernel_rfl) rfl rfl (fun w hst => qt_index_own hst evX SlIn.h rfl inX inX omX omX) ?_; rintro v hp; (try simp only [Int.toNat_natCast, Int.toNat_natCast_add_one, Int.reduceToNat] at hp))) <;> (try refine nY ?_)
          refine v_one 18 rfl (by kernel_rfl) ?_; intro w hst K hK; (refine s_stU hst evX asX SlIn.h inX evX omX ?_); clear hst; intro w hst; (try refine nY ?_); (try replace hst := nH hst); refine v_last hK hst ?_; clear hst hK K; (try clear w); (try refine nY ?_)
          refine v_done (by kernel_rfl) ?_; clear ops; intro w hst
          repeat' (first | ((fail_if_success (go_big_may)); (go_step)) | (with_reducible refine Sl.gate rfl ?_; (go_step)))
          have e15 : ((i : Int) - 15).toNat = i - 15 := by omega
          have e2 : ((i : Int) - 2).toNat = i - 2 := by omega
          have e16 : ((i : Int) - 16).toNat = i - 16 := by omega
          have e7 : ((i : Int) - 7).toNat = i - 7 := by omega
          rw [e15, e2, e16, e7] at hst
          clear e15 e2 e16 e7
          go_roundw
          case rel => exact ⟨i + 1, _, by omega, by go_num, Lib.hid (by rw [sched, ← hws.out, hE.out]), by rw [List.length_set]; omega, hst⟩
          case measure => simp [intOf]; omega
        · obtain rfl : i = 64 := by omega
          clear hi hlt
          have hwl2 : 64 ≤ ws.length := hwl.1
          repeat' (first | ((fail_if_success (go_big_may)); (go_step)) | ((first | (with_reducible refine Sl.k_load ?_; (refine s_qt hst (by exact qt_ldp_u32 evX asX inX) ?_)) | (with_reducible refine Sl.k_index ?_; (((refine s_ex hst (qt_index evX asX rfl inX inX omX omX) ?_); rintro v hp; (try simp only [Int.toNat_natCast, Int.toNat_natCast_add_one, Int.reduceToNat] at hp))))) <;> (try refine nY ?_)) | (with_reducible refine Sl.gate rfl ?_; (go_step)))
          go_loopw [12, 13, 14, 15, 16, 17, 18, 19, 20] (fun va vb vc vd ve vf vg vh v wr => ∃ (i : Nat) (s : S8), i ≤ 64 ∧ va = .int .u32 (s.a.toNat : Int) ∧ vb = .int .u32 (s.b.toNat : Int) ∧ vc = .int .u32 (s.c.toNat : Int) ∧ vd = .int .u32 (s.d.toNat : Int) ∧ ve = .int .u32 (s.e.toNat : Int) ∧ vf = .int .u32 (s.f.toNat : Int) ∧ vg = .int .u32 (s.g.toNat : Int) ∧ vh = .int .u32 (s.h.toNat : Int) ∧ v = .int .i64 i ∧ Hid (s = rounds ws h i) ∧ St S (.sl vw 135 1 64 (cF u32C ws) :: M) wr) (fun _ _ _ _ _ _ _ _ v _ => 64 - (intOf v).toNat)
          case atStart => exact ⟨0, h, by omega, rfl, rfl, rfl, rfl, rfl, rfl, rfl, rfl, rfl, Lib.hid rfl, hst⟩
          case round =>
            clear hst
            obtain ⟨i, s, hi, rfl, rfl, rfl, rfl, rfl, rfl, rfl, rfl, rfl, hs, hst⟩ := hrel
            by_cases hlt : i < 64
            · have hkl : i < kList.length := hlt
              have hkE := Lib.hid (getD_get hkl 0)
              repeat' (first | ((fail_if_success (go_big_may)); (go_step)) | (with_reducible refine Sl.gate rfl ?_; (go_step)))
              refine v_begin hst (by kernel_rfl) ?_; clear hst; intro ops; (try refine nY ?_)
              (refine t_qt 0 rfl (by kernel_rfl) rfl rfl (by exact qt_move evX) ?_) <;> (try refine nY ?_)
              (refine t_qt 1 rfl (by kernel_rfl) rfl rfl (by exact qt_move evX) ?_) <;> (try refine nY ?_)
              (refine t_call 2 rfl (by kernel_rfl) rfl (fun S' M' w hS hM hst => rotI_c w hst _ _ (by decide)) inX rfl ?_) <;> (try refine nY ?_)
              (refine t_qt 3 rfl (by kernel_rfl) rfl rfl (by exact qt_move evX) ?_) <;> (try refine nY ?_)
              (refine t_call 4 rfl (by kernel_rfl) rfl (fun S' M' w hS hM hst => rotI_c w hst _ _ (by decide)) inX rfl ?_) <;> (try refine nY ?_)
              (refine t_qt 5 rfl (by kernel_rfl) rfl rfl (by exact qt_xor32 rfl rfl) ?_) <;> (try refine nY ?_)
              (refine t_qt 6 rfl (by kernel_rfl) rfl rfl (by exact qt_move evX) ?_) <;> (try refine nY ?_)
              (refine t_call 7 rfl (by kernel_rfl) rfl (fun S' M' w hS hM hst => rotI_c w hst _ _ (by decide)) inX rfl ?_) <;> (try refine nY ?_)
              (refine t_qt 8 rfl (by kernel_rfl) rfl rfl (by exact qt_xor32 rfl rfl) ?_) <;> (try refine nY ?_)
              (refine t_qt 9 rfl (by kernel_rfl) rfl rfl (by exact qt_add32 rfl rfl) ?_) <;> (try refine nY ?_)
              (refine t_qt 10 rfl (by kernel_rfl) rfl rfl (by exact qt_move evX) ?_) <;> (try refine nY ?_)
              (refine t_qt 11 rfl (by kernel_rfl) rfl rfl (by exact qt_move evX) ?_) <;> (try refine nY ?_)
              (refine t_qt 12 rfl (by kernel_rfl) rfl rfl (by exact qt_and32 rfl rfl) ?_) <;> (try refine nY ?_)
              (refine t_qt 13 rfl (by kernel_rfl) rfl rfl (by exact qt_move evX) ?_) <;> (try refine nY ?_)
              (refine t_qt 14 rfl (by kernel_rfl) rfl rfl (qt_xorl32 rfl rfl) ?_) <;> (try refine nY ?_)
              (refine t_qt 15 rfl (by kernel_rfl) rfl rfl (by exact qt_move evX) ?_) <;> (try refine nY ?_)
              (refine t_qt 16 rfl (by kernel_rfl) rfl rfl (by exact qt_and32 rfl rfl) ?_) <;> (try refine nY ?_)
              (refine t_qt 17 rfl (by kernel_rfl) rfl rfl (by exact qt_xor32 rfl rfl) ?_) <;> (try refine nY ?_)
              (refine t_qt 18 rfl (by kernel_rfl) rfl rfl (by exact qt_add32 rfl rfl) ?_) <;> (try refine nY ?_)
              (refine t_qt 19 rfl (by kernel_rfl) rfl rfl (by exact qt_move evX) ?_) <;> (try refine nY ?_)
              (refine t_qt 20 rfl (by kernel_rfl) rfl rfl (by exact qt_move evX) ?_) <;> (try refine nY ?_)
              ((refine t_ex0 21 rfl (by kernel_rfl) rfl rfl (qt_index evX asX rfl inX inX omX omX) ?_; rintro v hp; (try simp only [Int.toNat_natCast, Int.toNat_natCast_add_one, Int.reduceToNat] at hp))) <;> (try refine nY ?_)
              (refine t_qt 22 rfl (by kernel_rfl) rfl rfl (by exact qt_ldp_u32 evX asX inX) ?_) <;> (try refine nY ?_)
              (refine t_qt 23 rfl (by kernel_rfl) rfl rfl (by exact qt_add32 rfl rfl) ?_) <;> (try refine nY ?_)
              (refine t_qt 24 rfl (by kernel_rfl) rfl rfl (by exact qt_move evX) ?_) <;> (try refine nY ?_)
              (refine t_qt 25 rfl (by kernel_rfl) rfl rfl (by exact qt_move evX) ?_) <;> (try refine nY ?_)
              ((refine t_ex 26 rfl (by kernel_rfl) rfl rfl (fun w hst => qt_index_own hst evX SlIn.h rfl inX inX omX omX) ?_; rintro v hp; (try simp only [Int.toNat_natCast, Int.toNat_natCast_add_one, Int.reduceToNat] at hp))) <;> (try refine nY ?_)
              (refine t_qt 27 rfl (by kernel_rfl) rfl rfl (by exact qt_ldU evX asX SlIn.h inX omX) ?_) <;> (try refine nY ?_)
              (refine t_qt 28 rfl (by kernel_rfl) rfl rfl (by exact qt_add32 rfl rfl) ?_) <;> (try refine nY ?_)
              (refine t_qt 29 rfl (by kernel_rfl) rfl rfl (by exact qt_assign evX) ?_) <;> (try refine nY ?_)
              refine v_done (by kernel_rfl) ?_; clear ops; intro w hst
              repeat' (first | (((with_reducible refine Sl.k_bin ?_; refine s_qt hst (by first | exact qt_xor32 rfl rfl | exact qt_and32 rfl rfl | exact qt_add32 rfl rfl) ?_)) <;> (try refine nY ?_)) | (((with_reducible refine Sl.k_call ?_; ((refine s_call (rotI_c _ hst _ _ (by decide)) inX rfl ?_; clear hst; rintro v w ⟨rfl, hst⟩)))) <;> (try refine nY ?_) <;> (try replace hst := nH hst)) | ((fail_if_success (go_big_may)); (go_step)) | (with_reducible refine Sl.gate rfl ?_; (go_step)))
              go_roundw
              case rel => exact ⟨i + 1, round1 s (kList.getD i 0) (ws.getD i 0), by omega, by rw [hkE.out, round1, ksT, ksU, rots3, rots3], rfl, rfl, rfl, by rw [hkE.out, round1, ksT, rots3], rfl, rfl, rfl, by go_num, Lib.hid (by rw [rounds, ← hs.out]), hst⟩
              case measure => simp [intOf]; omega
            · obtain rfl : i = 64 := by omega
              clear hi hlt
              repeat' (first | ((fail_if_success (go_big_may)); (go_step)) | (with_reducible refine Sl.gate rfl ?_; (go_step)))
              refine v_begin hst (by kernel_rfl) ?_; clear hst; intro ops; (try refine nY ?_)
              (refine t_qt 0 rfl (by kernel_rfl) rfl rfl (by exact qt_move evX) ?_) <;> (try refine nY ?_)
              ((refine t_ex0 1 rfl (by kernel_rfl) rfl rfl (qt_index evX asX rfl inX inX omX omX) ?_; rintro v hp; (try simp only [Int.toNat_natCast, Int.toNat_natCast_add_one, Int.reduceToNat] at hp))) <;> (try refine nY ?_)
              (refine t_qt 2 rfl (by kernel_rfl) rfl rfl (by exact qt_ldp_u32 evX asX inX) ?_) <;> (try refine nY ?_)
              (refine t_qt 3 rfl (by kernel_rfl) rfl rfl (by exact qt_move evX) ?_) <;> (try refine nY ?_)
              (refine t_qt 4 rfl (by kernel_rfl) rfl rfl (by exact qt_add32 rfl rfl) ?_) <;> (try refine nY ?_)
              (refine t_qt 5 rfl (by kernel_rfl) rfl rfl (by exact qt_move evX) ?_) <;> (try refine nY ?_)
              ((refine t_ex0 6 rfl (by kernel_rfl) rfl rfl (qt_index evX asX rfl inX inX omX omX) ?_; rintro v hp; (try simp only [Int.toNat_natCast, Int.toNat_natCast_add_one, Int.reduceToNat] at hp))) <;> (try refine nY ?_)
              (refine t_qt 7 rfl (by kernel_rfl) rfl rfl (by exact qt_ldp_u32 evX asX inX) ?_) <;> (try refine nY ?_)
              (refine t_qt 8 rfl (by kernel_rfl) rfl rfl (by exact qt_move evX) ?_) <;> (try refine nY ?_)
              (refine t_qt 9 rfl (by kernel_rfl) rfl rfl (by exact qt_add32 rfl rfl) ?_) <;> (try refine nY ?_)
              (refine t_qt 10 rfl (by kernel_rfl) rfl rfl (by exact qt_move evX) ?_) <;> (try refine nY ?_)
              ((refine t_ex0 11 rfl (by kernel_rfl) rfl rfl (qt_index evX asX rfl inX inX omX omX) ?_; rintro v hp; (try simp only [Int.toNat_natCast, Int.toNat_natCast_add_one, Int.reduceToNat] at hp))) <;> (try refine nY ?_)
              (refine t_qt 12 rfl (by kernel_rfl) rfl rfl (by exact qt_ldp_u32 evX asX inX) ?_) <;> (try refine nY ?_)
              (refine t_qt 13 rfl (by kernel_rfl) rfl rfl (by exact qt_move evX) ?_) <;> (try refine nY ?_)
              (refine t_qt 14 rfl (by kernel_rfl) rfl rfl (by exact qt_add32 rfl rfl) ?_) <;> (try refine nY ?_)
              (refine t_qt 15 rfl (by kernel_rfl) rfl rfl (by exact qt_move evX) ?_) <;> (try refine nY ?_)
              ((refine t_ex0 16 rfl (by kernel_rfl) rfl rfl (qt_index evX asX rfl inX inX omX omX) ?_; rintro v hp; (try simp only [Int.toNat_natCast, Int.toNat_natCast_add_one, Int.reduceToNat] at hp))) <;> (try refine nY ?_)
              (refine t_qt 17 rfl (by kernel_rfl) rfl rfl (by exact qt_ldp_u32 evX asX inX) ?_) <;> (try refine nY ?_)
              (refine t_qt 18 rfl (by kernel_rfl) rfl rfl (by exact qt_move evX) ?_) <;> (try refine nY ?_)
              (refine t_qt 19 rfl (by kernel_rfl) rfl rfl (by exact qt_add32 rfl rfl) ?_) <;> (try refine nY ?_)
              (refine t_qt 20 rfl (by kernel_rfl) rfl rfl (by exact qt_move evX) ?_) <;> (try refine nY ?_)
              ((refine t_ex0 21 rfl (by kernel_rfl) rfl rfl (qt_index evX asX rfl inX inX omX omX) ?_; rintro v hp; (try simp only [Int.toNat_natCast, Int.toNat_natCast_add_one, Int.reduceToNat] at hp))) <;> (try refine nY ?_)
              (refine t_qt 22 rfl (by kernel_rfl) rfl rfl (by exact qt_ldp_u32 evX asX inX) ?_) <;> (try refine nY ?_)
              (refine t_qt 23 rfl (by kernel_rfl) rfl rfl (by exact qt_move evX) ?_) <;> (try refine nY ?_)
              (refine t_qt 24 rfl (by kernel_rfl) rfl rfl (by exact qt_add32 rfl rfl) ?_) <;> (try refine nY ?_)
              (refine t_qt 25 rfl (by kernel_rfl) rfl rfl (by exact qt_move evX) ?_) <;> (try refine nY ?_)
              ((refine t_ex0 26 rfl (by kernel_rfl) rfl rfl (qt_index evX asX rfl inX inX omX omX) ?_; rintro v hp; (try simp only [Int.toNat_natCast, Int.toNat_natCast_add_one, Int.reduceToNat] at hp))) <;> (try refine nY ?_)
              (refine t_qt 27 rfl (by kernel_rfl) rfl rfl (by exact qt_ldp_u32 evX asX inX) ?_) <;> (try refine nY ?_)
              (refine t_qt 28 rfl (by kernel_rfl) rfl rfl (by exact qt_move evX) ?_) <;> (try refine nY ?_)
              (refine t_qt 29 rfl (by kernel_rfl) rfl rfl (by exact qt_add32 rfl rfl) ?_) <;> (try refine nY ?_)
              (refine t_qt 30 rfl (by kernel_rfl) rfl rfl (by exact qt_move evX) ?_) <;> (try refine nY ?_)
              ((refine t_ex0 31 rfl (by kernel_rfl) rfl rfl (qt_index evX asX rfl inX inX omX omX) ?_; rintro v hp; (try simp only [Int.toNat_natCast, Int.toNat_natCast_add_one, Int.reduceToNat] at hp))) <;> (try refine nY ?_)
              (refine t_qt 32 rfl (by kernel_rfl) rfl rfl (by exact qt_ldp_u32 evX asX inX) ?_) <;> (try refine nY ?_)
              (refine t_qt 33 rfl (by kernel_rfl) rfl rfl (by exact qt_move evX) ?_) <;> (try refine nY ?_)
              (refine t_qt 34 rfl (by kernel_rfl) rfl rfl (by exact qt_add32 rfl rfl) ?_) <;> (try refine nY ?_)
              (refine t_qt 35 rfl (by kernel_rfl) rfl rfl (by exact qt_move evX) ?_) <;> (try refine nY ?_)
              ((refine t_ex0 36 rfl (by kernel_rfl) rfl rfl (qt_index evX asX rfl inX inX omX omX) ?_; rintro v hp; (try simp only [Int.toNat_natCast, Int.toNat_natCast_add_one, Int.reduceToNat] at hp))) <;> (try refine nY ?_)
              (refine t_qt 37 rfl (by kernel_rfl) rfl rfl (by exact qt_ldp_u32 evX asX inX) ?_) <;> (try refine nY ?_)
              (refine t_qt 38 rfl (by kernel_rfl) rfl rfl (by exact qt_move evX) ?_) <;> (try refine nY ?_)
              (refine t_qt 39 rfl (by kernel_rfl) rfl rfl (by exact qt_add32 rfl rfl) ?_) <;> (try refine nY ?_)
              refine v_one 40 rfl (by kernel_rfl) ?_; intro w hst K hK; refine s_lit (vs := [.int .u32 ((h.a + s.a).toNat : Int), .int .u32 ((h.b + s.b).toNat : Int), .int .u32 ((h.c + s.c).toNat : Int), .int .u32 ((h.d + s.d).toNat : Int), .int .u32 ((h.e + s.e).toNat : Int), .int .u32 ((h.f + s.f).toNat : Int), .int .u32 ((h.g + s.g).toNat : Int), .int .u32 ((h.h + s.h).toNat : Int)]) hst inX inX rfl rfl (by simp [Value.cells]) rfl (by omega) (by omega) ?_; clear hst; intro x40 w hst; (try refine nY ?_); (try replace hst := nH hst); refine v_next hK hst (Snap.Le.refl _) (Suf.cons (Suf.refl _)) ?_; clear hst hK K; (try clear w); (try refine nY ?_)
              (refine t_qt 41 rfl (by kernel_rfl) rfl rfl (by exact qt_assign evX) ?_) <;> (try refine nY ?_)
              refine v_done (by kernel_rfl) ?_; clear ops; intro w hst
              repeat' (((fail_if_success (go_big_may)); (go_step)))
              go_ret
              refine ⟨_, rfl, ?_⟩
              have e : comp h blk = ⟨h.a + s.a, h.b + s.b, h.c + s.c, h.d + s.d, h.e + s.e, h.f + s.f, h.g + s.g, h.h + s.h⟩ := by
                rw [comp, ← hws.out, ← hs.out, add8]
                simp only [UInt32.add_comm]
              rw [e]
              exact hst.swap.drop
end Go.Proofs.YtlimhgamebnfeaaDoor

/- The reference's SHA-256: the hash of a byte sequence. -/
--@u32
--@hgp
--@flat
--@ex0
--@b8
namespace Go.Proofs.YtlimhgamebnfeaaDoor
set_option linter.unusedSimpArgs false
set_option linter.unusedVariables false
open Go.RowKit Go.Sl

def firstS : List UInt8 := [54, 97, 48, 57, 101, 54, 54, 55, 98, 98, 54, 55, 97, 101, 56, 53, 51, 99, 54, 101, 102, 51, 55, 50, 97, 53, 52, 102, 102, 53, 51, 97, 53, 49, 48, 101, 53, 50, 55, 102, 57, 98, 48, 53, 54, 56, 56, 99, 49, 102, 56, 51, 100, 57, 97, 98, 53, 98, 101, 48, 99, 100, 49, 57]
def cS0 : List UInt8 := [52, 50, 56, 97, 50, 102, 57, 56, 55, 49, 51, 55, 52, 52, 57, 49, 98, 53, 99, 48, 102, 98, 99, 102, 101, 57, 98, 53, 100, 98, 97, 53, 51, 57, 53, 54, 99, 50, 53, 98, 53, 57, 102, 49, 49, 49, 102, 49, 57, 50, 51, 102, 56, 50, 97, 52, 97, 98, 49, 99, 53, 101, 100, 53]
def cS1 : List UInt8 := [100, 56, 48, 55, 97, 97, 57, 56, 49, 50, 56, 51, 53, 98, 48, 49, 50, 52, 51, 49, 56, 53, 98, 101, 53, 53, 48, 99, 55, 100, 99, 51, 55, 50, 98, 101, 53, 100, 55, 52, 56, 48, 100, 101, 98, 49, 102, 101, 57, 98, 100, 99, 48, 54, 97, 55, 99, 49, 57, 98, 102, 49, 55, 52]
def cS2 : List UInt8 := [101, 52, 57, 98, 54, 57, 99, 49, 101, 102, 98, 101, 52, 55, 56, 54, 48, 102, 99, 49, 57, 100, 99, 54, 50, 52, 48, 99, 97, 49, 99, 99, 50, 100, 101, 57, 50, 99, 54, 102, 52, 97, 55, 52, 56, 52, 97, 97, 53, 99, 98, 48, 97, 57, 100, 99, 55, 54, 102, 57, 56, 56, 100, 97]
def cS3 : List UInt8 := [57, 56, 51, 101, 53, 49, 53, 50, 97, 56, 51, 49, 99, 54, 54, 100, 98, 48, 48, 51, 50, 55, 99, 56, 98, 102, 53, 57, 55, 102, 99, 55, 99, 54, 101, 48, 48, 98, 102, 51, 100, 53, 97, 55, 57, 49, 52, 55, 48, 54, 99, 97, 54, 51, 53, 49, 49, 52, 50, 57, 50, 57, 54, 55]
def cS4 : List UInt8 := [50, 55, 98, 55, 48, 97, 56, 53, 50, 101, 49, 98, 50, 49, 51, 56, 52, 100, 50, 99, 54, 100, 102, 99, 53, 51, 51, 56, 48, 100, 49, 51, 54, 53, 48, 97, 55, 51, 53, 52, 55, 54, 54, 97, 48, 97, 98, 98, 56, 49, 99, 50, 99, 57, 50, 101, 57, 50, 55, 50, 50, 99, 56, 53]
def cS5 : List UInt8 := [97, 50, 98, 102, 101, 56, 97, 49, 97, 56, 49, 97, 54, 54, 52, 98, 99, 50, 52, 98, 56, 98, 55, 48, 99, 55, 54, 99, 53, 49, 97, 51, 100, 49, 57, 50, 101, 56, 49, 57, 100, 54, 57, 57, 48, 54, 50, 52, 102, 52, 48, 101, 51, 53, 56, 53, 49, 48, 54, 97, 97, 48, 55, 48]
def cS6 : List UInt8 := [49, 57, 97, 52, 99, 49, 49, 54, 49, 101, 51, 55, 54, 99, 48, 56, 50, 55, 52, 56, 55, 55, 52, 99, 51, 52, 98, 48, 98, 99, 98, 53, 51, 57, 49, 99, 48, 99, 98, 51, 52, 101, 100, 56, 97, 97, 52, 97, 53, 98, 57, 99, 99, 97, 52, 102, 54, 56, 50, 101, 54, 102, 102, 51]
def cS7 : List UInt8 := [55, 52, 56, 102, 56, 50, 101, 101, 55, 56, 97, 53, 54, 51, 54, 102, 56, 52, 99, 56, 55, 56, 49, 52, 56, 99, 99, 55, 48, 50, 48, 56, 57, 48, 98, 101, 102, 102, 102, 97, 97, 52, 53, 48, 54, 99, 101, 98, 98, 101, 102, 57, 97, 51, 102, 55, 99, 54, 55, 49, 55, 56, 102, 50]
def constS : List UInt8 := (((cS0.append cS1).append (cS2.append cS3)).append ((cS4.append cS5).append (cS6.append cS7)))
theorem firstW : wordsL firstS 8 = s8Start.l := by decide +kernel
theorem constW : wordsL constS 64 = kList := by decide +kernel
theorem firstH : (∀ x ∈ firstS, isHex x) ∧ firstS.length = 64 := by decide +kernel
theorem constH : (∀ x ∈ constS, isHex x) ∧ constS.length = 512 := by decide +kernel

theorem out8_get (s : S8) {i : Nat} (h : i < 32) : (out8 s).getD i 0 = UInt8.ofNat (shr (s.l.getD (i / 4) 0) (24 - 8 * (i % 4))).toNat := by
  have key : ∀ (x : UInt32) (j : Nat), j < 4 → (be x.toNat 4).getD j 0 = UInt8.ofNat (shr x (24 - 8 * j)).toNat := by
    intro x j hj
    have e : ∀ k, (shr x (8 * k)).toNat = x.toNat / 256 ^ k := fun k => by
      show (x.toBitVec >>> (8 * k)).toNat = _
      rw [BitVec.toNat_ushiftRight, Nat.shiftRight_eq_div_pow, Nat.pow_mul]
      rfl
    match j, hj with
    | 0, _ => show UInt8.ofNat _ = _; rw [show 24 - 8 * 0 = 8 * 3 from rfl, e]
    | 1, _ => show UInt8.ofNat _ = _; rw [show 24 - 8 * 1 = 8 * 2 from rfl, e]
    | 2, _ => show UInt8.ofNat _ = _; rw [show 24 - 8 * 2 = 8 * 1 from rfl, e]
    | 3, _ => show UInt8.ofNat _ = _; rw [show 24 - 8 * 3 = 8 * 0 from rfl, e]
  have cat : ∀ (l : List UInt32) (i : Nat), i < 4 * l.length → (l.flatMap fun x => be x.toNat 4).getD i 0 = (be (l.getD (i / 4) 0).toNat 4).getD (i % 4) 0 := by
    intro l
    induction l with
    | nil => intro i h; simp at h
    | cons x r ih =>
      intro i h
      rw [List.flatMap_cons, List.getD_eq_getElem?_getD]
      by_cases h4 : i < 4
      · rw [List.getElem?_append_left (by rw [be_len]; exact h4), show i / 4 = 0 by omega, show i % 4 = i by omega]
        rfl
      · rw [List.getElem?_append_right (by rw [be_len]; omega), be_len, ← List.getD_eq_getElem?_getD, ih (i - 4) (by rw [List.length_cons] at h; omega), show i / 4 = (i - 4) / 4 + 1 by omega, show (i - 4) % 4 = i % 4 by omega]
        rfl
  rw [out8, cat _ _ (by show i < 4 * 8; omega)]
  exact key _ _ (Nat.mod_lt _ (by decide))

def outB (s : S8) (n : Nat) : List UInt8 := (out8 s).take n ++ List.replicate (32 - n) 0
theorem outB_len (s : S8) {n : Nat} (h : n ≤ 32) : (outB s n).length = 32 := by rw [outB, List.length_append, List.length_take, out8_len, List.length_replicate]; omega
theorem outB_succ (s : S8) {i : Nat} (h : i < 32) : (outB s i).set i ((out8 s).getD i 0) = outB s (i + 1) := by
  have hl : i < (out8 s).length := by rw [out8_len]; exact h
  have e : 32 - i = (32 - (i + 1)) + 1 := by omega
  have e2 : ((out8 s).take i).length = i := by rw [List.length_take]; omega
  rw [outB, outB, List.take_succ_eq_append_getElem hl, List.set_append, if_neg (by omega), e2, Nat.sub_self, e, List.replicate_succ, List.set_cons_zero, List.append_assoc, getD_get hl]
  rfl
theorem outB_all (s : S8) : outB s 32 = out8 s := by rw [outB, List.take_of_length_le (by rw [out8_len]; exact Nat.le_refl _)]; simp

set_option maxRecDepth 100000 in
set_option maxHeartbeats 4000000 in
theorem refSum_c {S M} (w : World) (hst : St S M w) (vb : Value) (b : List UInt8) (hb : RSl S vb b) (hm : b.length ≤ 8000000) :
    Rets Tryd.prog 75 [vb] w fun v w' => v = .agg (u8s (hash b)).toArray ∧ St S M w' := by
  unfold Rets
  have hpz : padZ b.length < 64 := Nat.mod_lt _ (by decide)
  have hb1 := hb.oneCell
  go_enter Tryd.func75, Tryd.ntmps75
  repeat' ((fail_if_success (with_reducible show Code.wp _ (Code.region 1 _ _) _ _ _)); first | ((fail_if_success (go_big_may)); (go_step)) | (((((refine s_alloc hst inX ?_; clear hst; intro bk w hst)))) <;> (try refine nY ?_) <;> (try replace hst := nH hst)))
  rename Nat => b2
  refine wp_region_lit ?_
  refine s_lit (vs := []) (cs := []) hst (by infer_instance) (by infer_instance) rfl rfl (by simp) rfl (by omega) (by omega) ?_
  clear hst; intro u w hst
  refine nY ?_
  repeat' (((fail_if_success (go_big_may)); (go_step)))
  refine s_append_data (k := 0) hst evX evX rfl hb (by infer_instance) (by infer_instance) (by infer_instance) (by first | (simp; done) | (simp at hm ⊢; omega)) (by first | (simp; done) | (simp at hm ⊢; omega)) (by decide) ?_
  clear hst; intro v' w c' hc hst
  rw [hc.eq_u8s] at hst
  simp only [List.set_cons_zero, List.nil_append, Nat.zero_add] at hst
  have hone0 := sl_one hst
  refine nY ?_
  repeat' (fail)
  refine s_lit (vs := [.int .u8 128]) hst inX inX rfl rfl (by simp [Value.cells]) rfl (by omega) (by omega) ?_
  clear hst; intro u w hst
  refine nY ?_
  repeat' (fail)
  refine s_append (j := 0) hst evX evX SlIn.h rfl inX inX inX (by simp [Value.cells, Value.oneCell']) (by omega) (by omega) (by decide) ?_
  clear hst; intro v' w hst
  refine nY ?_
  (try replace hst := nH hst)
  replace hst := hst.drop
  repeat' (((fail_if_success (go_big_may)); (go_step)))
  have hone := sl_one hst
  have hst : St S (.sl v' 5 1 (b ++ [128]).length (u8s (b ++ [128])) :: .box b2 (u8s (List.replicate 32 0)) 113 :: M) w := by
    rw [List.length_append, u8s_snoc]
    exact hst
  go_loopw [3] (fun v wr => ∃ (j : Nat) (c : List UInt8), j ≤ padZ b.length ∧ Hid (c = b ++ [128] ++ List.replicate j 0) ∧ (b.length + 1 + j ≤ c.length ∧ c.length ≤ b.length + 1 + j) ∧ v.oneCell' = true ∧ lenOf v = c.length ∧ St S (.sl v 5 1 c.length (u8s c) :: .box b2 (u8s (List.replicate 32 0)) 113 :: M) wr) (fun v _ => b.length + 65 - lenOf v)
  case atStart => exact ⟨0, _, by omega, Lib.hid (by simp), by simp, hone, sl_lenOf hst, hst⟩
  case round =>
    clear hst
    obtain ⟨j, c, hj, hc, hcl, hone, hlo, hst⟩ := hrel
    have Hlo := Lib.hid hlo
    clear hlo
    have hmod : ((c.length : Int) % 64 = 56 → padZ b.length ≤ j) ∧ (padZ b.length ≤ j → (c.length : Int) % 64 = 56) := by
      unfold padZ at hj ⊢
      omega
    by_cases hlt : j < padZ b.length
    · have h56 : ((c.length : Int) % 64 == 56) = false := beq_eq_false_iff_ne.2 (by omega)
      have h56' : ((c.length : Int) % 64 != 56) = true := bne_iff_ne.2 (by omega)
      clear hmod
      repeat' (first | ((fail_if_success (go_big_may)); (go_step)) | (((with_reducible refine Sl.k_call ?_; (refine s_qt hst (by exact qt_len_own evX SlIn.h inX) ?_))) <;> (try refine nY ?_)) | (with_reducible refine Sl.gate rfl ?_; (go_step)))
      refine s_lit (vs := [.int .u8 0]) hst inX inX rfl rfl (by simp [Value.cells]) rfl (by omega) (by omega) ?_
      clear hst; intro u w hst
      refine nY ?_
      repeat' (fail)
      refine s_append (j := 0) hst evX evX SlIn.h rfl inX inX inX (by simp [Value.cells, Value.oneCell']) (by omega) (by omega) (by decide) ?_
      clear hst; intro v' w hst
      refine nY ?_
      (try replace hst := nH hst)
      replace hst := hst.drop
      repeat' (((fail_if_success (go_big_may)); (go_step)))
      have hone' := sl_one hst
      have hlo' := sl_lenOf hst
      go_roundw
      case rel => exact ⟨j + 1, c ++ [0], by omega, Lib.hid (by rw [hc.out, List.append_assoc, List.append_assoc, List.append_assoc, ← List.replicate_succ']), by simp; omega, hone', by simpa using hlo', by rw [List.length_append, u8s_snoc]; exact hst⟩
      case measure =>
        have h1 := Hlo.out
        have h2 : lenOf v' = c.length + 1 := by simpa using hlo'
        show b.length + 65 - lenOf v' < b.length + 65 - lenOf _
        rw [h2]
        omega
    · have h56' : ((c.length : Int) % 64 != 56) = false := bne_eq_false_iff_eq.2 (by omega)
      clear hmod
      obtain rfl : j = padZ b.length := by omega
      repeat' (first | ((fail_if_success (go_big_may)); (go_step)) | (((with_reducible refine Sl.k_call ?_; (refine s_qt hst (by first | exact qt_len evX asX inX | exact qt_len_own evX SlIn.h inX) ?_))) <;> (try refine nY ?_)) | (with_reducible refine Sl.gate rfl ?_; (go_step)))
      obtain ⟨c0, hc0⟩ : ∃ c0 : List UInt8, c = c0 := ⟨c, rfl⟩
      have hpad : Hid (c ++ be (8 * b.length) 8 = pad b) := Lib.hid (by rw [hc.out]; rfl)
      have hlen0 : c.length ≤ 8000100 := by omega
      clear hlt hj hc hcl Hlo h56'
      go_loopw [3, 5] (fun va v wr => ∃ (j : Nat) (k : Int) (c2 : List UInt8), j ≤ 8 ∧ v = .int .i64 k ∧ k = (j : Int) - 1 ∧ Hid (c2 ++ be (8 * b.length) j = c ++ be (8 * b.length) 8) ∧ c2.length + j ≤ c.length + 8 ∧ va.oneCell' = true ∧ St S (.sl va 5 1 c2.length (u8s c2) :: .box b2 (u8s (List.replicate 32 0)) 113 :: M) wr) (fun _ v _ => (intOf v + 1).toNat)
      case atStart => exact ⟨8, _, c, by omega, rfl, by omega, Lib.hid rfl, by omega, hone, hst⟩
      case round =>
        clear hst hone
        obtain ⟨j, k, c2, hj, rfl, hk', hc2, hcl, hone, hst⟩ := hrel
        rcases Nat.eq_zero_or_pos j with rfl | hj0
        · obtain rfl : k = -1 := by omega
          clear hk'
          have e : c2 = pad b := by rw [← hpad.out, ← hc2.out]; simp [be]
          clear hpad hc2 hcl
          subst e
          have hpl : (pad b).length ≤ 16777216 := by rw [pad_len]; omega
          have hlen : Hid ((pad b).length = 64 * ((pad b).length / 64)) := Lib.hid (by have := pad_mod b; omega)
          repeat' (first | ((fail_if_success (go_big_may)); (go_step)) | (with_reducible refine Sl.gate rfl ?_; (go_step)))
          obtain ⟨S1, hS1, hst, hpv⟩ := lit_u8 (pad b) hst rfl rfl
          have hone1 := hpv.oneCell
          repeat' (first | (((with_reducible refine Sl.k_call ?_; ((refine s_call (words_c _ hst firstS 8 (by rw [firstH.2]; decide) firstH.1 (by rw [firstH.2]; decide)) inX rfl ?_; clear hst; rintro v w hst)))) <;> (try refine nY ?_) <;> (try replace hst := nH hst)) | ((fail_if_success (go_big_may)); (go_step)))
          rw [firstW] at hst
          obtain ⟨S2, hS2, hst, hvv⟩ := lit_u32 s8Start.l hst rfl rfl
          have hvv1 := hvv.oneCell
          repeat' (first | (((with_reducible refine Sl.k_call ?_; ((refine s_call (words_c _ hst constS 64 (by rw [constH.2]; decide) constH.1 (by rw [constH.2]; decide)) inX rfl ?_; clear hst; rintro v w hst)))) <;> (try refine nY ?_) <;> (try replace hst := nH hst)) | ((fail_if_success (go_big_may)); (go_step)))
          rw [constW] at hst
          obtain ⟨S3, hS3, hst, hvk⟩ := lit_u32 kList hst rfl rfl
          have hvk1 := hvk.oneCell
          have hpv3 := (hpv.mono hS2).mono hS3
          replace hvv := hvv.mono hS3
          have hSS := (hS1.trans hS2).trans hS3
          clear hpv hS1 hS2 hS3
          rename_i v6 _ _ v7 _
          repeat' (fail)
          go_loopw [6, 8] (fun v vi wr => ∃ (S' : Snap) (k m : Nat), Hid (m = 64 * k) ∧ m ≤ (pad b).length ∧ vi = .int .i64 (m : Int) ∧ S3.Le S' ∧ RSl S' v (blocks (pad b) k).l ∧ St S' (.box b2 (u8s (List.replicate 32 0)) 113 :: M) wr) (fun _ v _ => (pad b).length - (intOf v).toNat)
          case atStart => exact ⟨S3, 0, 0, Lib.hid rfl, by omega, rfl, Snap.Le.refl _, hvv, hst⟩
          case round =>
            clear hst hvv
            obtain ⟨S4, k, m, hmk, hk, rfl, hS4, hvv, hst⟩ := hrel
            have hpv4 := hpv3.mono hS4
            have hvk4 := hvk.mono hS4
            have hvv1 := hvv.oneCell
            by_cases hlt : m < (pad b).length
            · have hk1 : m + 64 ≤ (pad b).length := by have := hlen.out; have := hmk.out; omega
              repeat' (first | ((fail_if_success (go_big_may)); (go_step)) | (((with_reducible refine Sl.k_call ?_; (refine s_qt hst (by exact qt_len evX asX inX) ?_))) <;> (try refine nY ?_)) | (with_reducible refine Sl.gate rfl ?_; (go_step)))
              refine s_slice (a := m) (b := m + 64) evX hpv4 inX inX (.inr ⟨.i64, by simp [evF, nth]⟩) (.inr ⟨.i64, by simp [evF, nth]⟩) (.inl rfl) (by omega) (by omega) ?_
              intro vs hvs
              have hvs1 := hvs.oneCell
              refine nY ?_
              repeat' (first | (((with_reducible refine Sl.k_call ?_; ((refine s_call (refComp_c _ hst _ vs _ (blocks (pad b) k) _ hvv hvs hvk4 (by rw [List.length_take, List.length_drop]; omega)) inX rfl ?_; clear hst; rintro v w hst)))) <;> (try refine nY ?_) <;> (try replace hst := nH hst)) | ((fail_if_success (go_big_may)); (go_step)) | (with_reducible refine Sl.gate rfl ?_; (go_step)))
              obtain ⟨S5, hS5, hst, hnv⟩ := lit_u32 (comp (blocks (pad b) k) (((pad b).drop m).take (m + 64 - m))).l hst rfl rfl
              have hnv1 := hnv.oneCell
              repeat' (fail)
              go_roundw
              case rel => exact ⟨S5, k + 1, m + 64, Lib.hid (by rw [hmk.out]; omega), hk1, by go_num, hS4.trans hS5, by rw [blocks, ← hmk.out]; rw [Nat.add_sub_cancel_left] at hnv; exact hnv, hst⟩
              case measure => simp [intOf]; omega
            · have hkN : k = (pad b).length / 64 := by have := hlen.out; have := hmk.out; omega
              obtain ⟨s8, hs8⟩ : ∃ s8, blocks (pad b) ((pad b).length / 64) = s8 := ⟨_, rfl⟩
              rw [hkN, hs8] at hvv
              have H8 : Hid (hash b = out8 s8) := Lib.hid (by rw [hash, hs8])
              have hwl : 8 ≤ s8.l.length := Nat.le_refl 8
              clear hs8 hkN
              repeat' (first | ((fail_if_success (go_big_may)); (go_step)) | (((with_reducible refine Sl.k_call ?_; (refine s_qt hst (by exact qt_len evX asX inX) ?_))) <;> (try refine nY ?_)) | (with_reducible refine Sl.gate rfl ?_; (go_step)) | ((((first | (with_reducible refine Sl.k_store ?_; (refine s_store hst rfl _ BoxIn.h inX evX rfl lenOk oneOk (by simp) ?_); clear hst; intro w hst) | (refine s_alloc hst inX ?_; clear hst; intro bk w hst)))) <;> (try refine nY ?_) <;> (try replace hst := nH hst)))
              have hst : St S4 (.box bk (u8s (outB s8 0)) 113 :: .box b2 (u8s (List.replicate 32 0)) 113 :: M) w := hst
              rename Nat => b9
              go_loopw [10] (fun v wr => ∃ (i : Nat) (c : List UInt8), i ≤ 32 ∧ v = .int .i64 i ∧ Hid (c = outB s8 i) ∧ (32 ≤ c.length ∧ c.length ≤ 32) ∧ St S4 (.box b9 (u8s c) 113 :: .box b2 (u8s (List.replicate 32 0)) 113 :: M) wr) (fun v _ => 32 - (intOf v).toNat)
              case atStart => exact ⟨0, _, by omega, rfl, Lib.hid rfl, by rw [outB_len _ (by omega)]; omega, hst⟩
              case round =>
                clear hst
                obtain ⟨i, c, hi, rfl, hc, hcl, hst⟩ := hrel
                by_cases hlt : i < 32
                · have hE := Lib.hid (outB_succ s8 hlt)
                  have hF := Lib.hid (out8_get s8 hlt)
                  have hG := Lib.hid (getD_get (l := s8.l) (i := i / 4) (by omega) 0)
                  repeat' (first | ((first | (with_reducible (refine Sl.k_conv ?_; refine s_qt hst (qt_conv328 rfl inX inX) ?_)) | (with_reducible refine Sl.k_bin ?_; refine s_qt hst (by exact qt_shr32 rfl rfl omX) ?_)) <;> (try refine nY ?_)) | ((fail_if_success (go_big_may)); (go_step)) | ((first | (with_reducible refine Sl.k_load ?_; (refine s_qt hst (by exact qt_ldp_u32 evX asX inX) ?_)) | (with_reducible refine Sl.k_index ?_; (first | refine s_qt hst (qt_indexA rfl rfl inX inX omX omX) ?_ | ((refine s_ex hst (qt_index evX asX rfl inX inX omX omX) ?_); rintro v hp; (try simp only [Int.toNat_natCast, Int.toNat_natCast_add_one, Int.reduceToNat] at hp))))) <;> (try refine nY ?_)) | (with_reducible refine Sl.gate rfl ?_; (go_step)) | (((((with_reducible refine Sl.k_store ?_; (refine s_stB8 hst rfl BoxIn.h inX evX omX ?_); clear hst; intro w hst)))) <;> (try refine nY ?_) <;> (try replace hst := nH hst)))
                  have e1 : ((i : Int) / 4).toNat = i / 4 := by omega
                  have e2 : (24 - 8 * ((i : Int) % 4)).toNat = 24 - 8 * (i % 4) := by omega
                  simp only [e1, e2] at hst
                  go_roundw
                  case rel => exact ⟨i + 1, _, by omega, by go_num, Lib.hid (by rw [hc.out, ← hE.out, hF.out, hG.out]), by rw [List.length_set]; exact hcl, hst⟩
                  case measure => simp [intOf]; omega
                · obtain rfl : i = 32 := by omega
                  obtain rfl : c = hash b := by rw [hc.out, H8.out, outB_all]
                  haveI : LenIs (hash b) 32 := ⟨hash_len b⟩
                  repeat' (first | ((fail_if_success (go_big_may)); (go_step)) | (((with_reducible refine Sl.k_load ?_; (refine s_qt hst (by exact qt_loadA evX BoxIn.h inX rfX) ?_))) <;> (try refine nY ?_)) | (with_reducible refine Sl.gate rfl ?_; (go_step)))
                  refine s_stD hst rfl BoxIn.h inX evX inX lenX ?_
                  clear hst; intro w hst
                  (try refine nY ?_)
                  (try replace hst := nH hst)
                  repeat' (((fail_if_success (go_big_may)); (go_step)))
                  exact ret_D rfl hst rfl BoxIn.h inX inX ⟨_, rfl, rfl, St.weaken (hSS.trans hS4) hst.drop.drop⟩
        · obtain ⟨i, rfl⟩ : ∃ i, j = i + 1 := ⟨j - 1, by omega⟩
          obtain rfl : k = (i : Int) := by omega
          clear hk'
          repeat' (first | ((fail_if_success (go_big_may)); (go_step)) | (with_reducible refine Sl.gate rfl ?_; (go_step)))
          refine s_lit (vs := [.int .u8 ((8 * (b.length : Int)) / 2 ^ (8 * i) % 256)]) hst inX inX rfl rfl (by simp [Value.cells]) rfl (by omega) (by omega) ?_
          clear hst; intro u w hst
          refine nY ?_
          repeat' (fail)
          refine s_append (j := 0) hst evX evX SlIn.h rfl inX inX inX (by simp [Value.cells, Value.oneCell']) (by omega) (by omega) (by decide) ?_
          clear hst; intro v' w hst
          refine nY ?_
          (try replace hst := nH hst)
          replace hst := hst.drop
          repeat' (first | ((fail_if_success (go_big_may)); (go_step)) | (with_reducible refine Sl.gate rfl ?_; (go_step)))
          have h3 := sl_one hst
          go_roundw
          case rel => exact ⟨i, _, c2 ++ [UInt8.ofNat (8 * b.length / 256 ^ i)], by omega, rfl, by omega, Lib.hid (by rw [← hc2.out, be_succ]; simp), by simp; omega, h3, by rw [List.length_append, u8s_snoc, ← shr_byte]; exact hst⟩
          case measure => simp [intOf]
end Go.Proofs.YtlimhgamebnfeaaDoor

/- The reference's digests. -/
--@u32
--@hgp
--@flat
--@ex0
--@b8
--@dg
namespace Go.Proofs.YtlimhgamebnfeaaDoor
set_option linter.unusedSimpArgs false
set_option linter.unusedVariables false
open Go.RowKit Go.Sl

def takeB (h : List UInt8) (n : Nat) : List UInt8 := h.take n ++ List.replicate (16 - n) 0
theorem takeB_len {h : List UInt8} (hl : h.length = 32) {n : Nat} (hn : n ≤ 16) : (takeB h n).length = 16 := by rw [takeB, List.length_append, List.length_take, List.length_replicate]; omega
theorem takeB_succ {h : List UInt8} (hl : h.length = 32) {i : Nat} (hi : i < 16) : (takeB h i).set i (h.getD i 0) = takeB h (i + 1) := by
  have hl2 : i < h.length := by omega
  have e : 16 - i = (16 - (i + 1)) + 1 := by omega
  have e2 : (h.take i).length = i := by rw [List.length_take]; omega
  rw [takeB, takeB, List.take_succ_eq_append_getElem hl2, List.set_append, if_neg (by omega), e2, Nat.sub_self, e, List.replicate_succ, List.set_cons_zero, List.append_assoc, getD_get hl2]
  rfl
theorem takeB_all (h : List UInt8) : takeB h 16 = h.take 16 := by rw [takeB]; simp

set_option maxRecDepth 8000 in
set_option maxHeartbeats 400000 in
theorem refShort_c {S M} (w : World) (hst : St S M w) (h : List UInt8) (hl : h.length = 32) :
    Rets Tryd.prog 74 [.agg (u8s h).toArray] w fun v w' => v = .agg (u8s (h.take 16)).toArray ∧ St S M w' := by
  unfold Rets
  have hll : 32 ≤ h.length := by omega
  go_enter Tryd.func74, Tryd.ntmps74
  repeat' (first | ((fail_if_success (go_big_may)); (go_step)) | (with_reducible refine Sl.gate rfl ?_; (go_step)) | ((((first | (with_reducible refine Sl.k_store ?_; (refine s_store hst rfl _ BoxIn.h inX evX rfl lenOk oneOk (by simp) ?_); clear hst; intro w hst) | (refine s_box hst evX rfl ?_; clear hst; intro bx w hst) | (refine s_alloc hst inX ?_; clear hst; intro bk w hst)))) <;> (try refine nY ?_) <;> (try replace hst := nH hst)))
  rename_i b3 _ _ _ _
  have hst : St S (.box bk (u8s (takeB h 0)) 38 :: .box b3 (u8s (List.replicate 16 0)) 38 :: .box bx (u8s h) 113 :: M) w := hst
  go_loopw [4] (fun v wr => ∃ (i : Nat) (c : List UInt8), i ≤ 16 ∧ v = .int .i64 i ∧ Hid (c = takeB h i) ∧ (16 ≤ c.length ∧ c.length ≤ 16) ∧ St S (.box bk (u8s c) 38 :: .box b3 (u8s (List.replicate 16 0)) 38 :: .box bx (u8s h) 113 :: M) wr) (fun v _ => 16 - (intOf v).toNat)
  case atStart => exact ⟨0, _, by omega, rfl, Lib.hid rfl, by rw [takeB_len hl (by omega)]; omega, hst⟩
  case round =>
    clear hst
    obtain ⟨i, c, hi, rfl, hc, hcl, hst⟩ := hrel
    by_cases hlt : i < 16
    · have hE := Lib.hid (takeB_succ hl hlt)
      clear hl
      repeat' (first | ((fail_if_success (go_big_may)); (go_step)) | ((first | (with_reducible refine Sl.k_load ?_; (refine s_qt hst (by exact qt_ldB8 evX BoxIn.h inX omX) ?_)) | (with_reducible refine Sl.k_index ?_; (refine s_qt hst (qt_indexA rfl rfl inX inX omX omX) ?_))) <;> (try refine nY ?_)) | (with_reducible refine Sl.gate rfl ?_; (go_step)) | (((((with_reducible refine Sl.k_store ?_; (refine s_stB8 hst rfl BoxIn.h inX evX omX ?_); clear hst; intro w hst)))) <;> (try refine nY ?_) <;> (try replace hst := nH hst)))
      go_roundw
      case rel => exact ⟨i + 1, _, by omega, by go_num, Lib.hid (by rw [hc.out, ← hE.out]), by rw [List.length_set]; exact hcl, hst⟩
      case measure => simp [intOf]; omega
    · obtain rfl : i = 16 := by omega
      obtain rfl : c = h.take 16 := by rw [hc.out, takeB_all]
      haveI : LenIs (h.take 16) 16 := ⟨by rw [List.length_take]; omega⟩
      repeat' (first | ((fail_if_success (go_big_may)); (go_step)) | (((with_reducible refine Sl.k_load ?_; (refine s_qt hst (by exact qt_loadD evX BoxIn.h inX inX) ?_))) <;> (try refine nY ?_)) | (with_reducible refine Sl.gate rfl ?_; (go_step)) | (((((with_reducible refine Sl.k_store ?_; (refine s_stD hst rfl BoxIn.h inX evX inX lenX ?_); clear hst; intro w hst)))) <;> (try refine nY ?_) <;> (try replace hst := nH hst)))
      exact ret_D rfl hst rfl BoxIn.h inX inX ⟨_, rfl, rfl, hst.drop.drop.drop⟩

set_option maxRecDepth 8000 in
set_option maxHeartbeats 400000 in
theorem refDigest_c {S M} (w : World) (hst : St S M w) (tag : Int) (h0 : 0 ≤ tag ∧ tag ≤ 255) (vp : Value) (parts : List (List UInt8)) (hp : RSl S vp parts) (hs : sizeB parts ≤ 1048576) :
    Rets Tryd.prog 44 [.int .i64 tag, vp] w fun v w' => v = .agg (u8s (dig tag parts)).toArray ∧ St S M w' := by
  unfold Rets
  obtain ⟨t, rfl⟩ : ∃ t : Nat, tag = t := ⟨tag.toNat, by omega⟩
  have ht : [Value.int .u8 (t : Int)] = u8s [UInt8.ofNat t] := by
    simp only [u8s, List.map_cons, List.map_nil, UInt8.toNat_ofNat']
    congr 2
    omega
  have hpn : parts.length ≤ 1048576 := by unfold sizeB at hs; omega
  go_enter Tryd.func44, Tryd.ntmps44
  repeat' (first | ((fail_if_success (go_big_may)); (go_step)) | (with_reducible refine Sl.gate rfl ?_; (go_step)) | (((((refine s_alloc hst inX ?_; clear hst; intro bk w hst)))) <;> (try refine nY ?_) <;> (try replace hst := nH hst)))
  refine s_lit (vs := [.int .u8 (t : Int)]) hst inX inX rfl rfl (by simp [Value.cells]) rfl (by omega) (by omega) ?_
  clear hst; intro x w hst
  have hst : St S (.sl x 5 1 [UInt8.ofNat t].length (u8s [UInt8.ofNat t]) :: .box bk (u8s (List.replicate 16 0)) 38 :: M) w := by rw [← ht]; exact hst
  have hx1 := sl_one hst
  refine nY ?_
  repeat' (((fail_if_success (go_big_may)); (go_step)))
  go_loopw [5, 6] (fun u v wr => ∃ (i : Nat) (c : List UInt8), i ≤ parts.length ∧ v = .int .i64 i ∧ Hid (c = [UInt8.ofNat t] ++ joinB (parts.take i)) ∧ c.length ≤ 1 + sizeB parts ∧ u.oneCell' = true ∧ St S (.sl u 5 1 c.length (u8s c) :: .box bk (u8s (List.replicate 16 0)) 38 :: M) wr) (fun _ v _ => parts.length - (intOf v).toNat)
  case atStart => exact ⟨0, _, Nat.zero_le _, rfl, Lib.hid (by simp [joinB]), Nat.le_add_right 1 _, hx1, hst⟩
  case round =>
    clear hst
    obtain ⟨i, c, hi, rfl, hc, hcl, hone, hst⟩ := hrel
    by_cases hlt : i < parts.length
    · have hpl := sizeB_mem (List.getElem_mem hlt)
      have hcn : (c ++ encB parts[i]).length ≤ 1 + sizeB parts := by
        have h1 := joinB_len (parts.take (i + 1))
        have h2 := sizeB_take parts (i + 1)
        have e : c ++ encB parts[i] = [UInt8.ofNat t] ++ joinB (parts.take (i + 1)) := by
          rw [hc.out, List.take_succ_eq_append_getElem hlt, joinB, joinB, List.flatMap_append, List.append_assoc]
          simp
        rw [e, List.length_append]
        simp only [List.length_cons, List.length_nil]
        omega
      rw [List.length_append] at hcn
      repeat' (first | (((with_reducible refine Sl.k_conv ?_; refine s_stringI hst evX asX inX inX inX ?_)) <;> (try refine nY ?_)) | (((with_reducible refine Sl.k_call ?_; ((refine s_call (refBytes_c _ hst parts[i] (by omega)) inX rfl ?_; clear hst; rintro v w hst)))) <;> (try refine nY ?_) <;> (try replace hst := nH hst)) | ((fail_if_success (go_big_may)); (go_step)) | ((first | (with_reducible refine Sl.k_load ?_; ((refine s_ex hst (qt_ldp_list evX asX inX) ?_; rintro v ⟨hvl, hv1⟩))) | (with_reducible refine Sl.k_index ?_; (((refine s_ex hst (qt_index evX asX rfl inX inX omX omX) ?_); rintro v hp; (try simp only [Int.toNat_natCast, Int.toNat_natCast_add_one, Int.reduceToNat] at hp)))) | (with_reducible refine Sl.k_call ?_; (refine s_qt hst (by exact qt_len evX asX inX) ?_))) <;> (try refine nY ?_)) | (with_reducible refine Sl.gate rfl ?_; (go_step)))
      refine s_append (j := 0) hst evX evX SlIn.h rfl inX inX inX (u8s_one _) (by omega) (by omega) (by decide) ?_
      clear hst; intro v' w hst
      (try refine nY ?_)
      (try replace hst := nH hst)
      replace hst := hst.drop
      repeat' (first | ((fail_if_success (go_big_may)); (go_step)) | (with_reducible refine Sl.gate rfl ?_; (go_step)))
      have hone' := sl_one hst
      go_roundw
      case rel =>
        refine ⟨i + 1, c ++ encB parts[i], by omega, by go_num, Lib.hid ?_, by rw [List.length_append]; exact hcn, hone', ?_⟩
        · rw [hc.out, List.take_succ_eq_append_getElem hlt, joinB, joinB, List.flatMap_append, List.append_assoc]
          simp
        · rw [u8s_append, List.length_append]
          exact hst
      case measure => simp [intOf]; omega
    · rw [List.take_of_length_le (l := parts) (i := i) (by omega)] at hc
      obtain ⟨S1, hS1, hst, hv⟩ := lit_u8 c hst rfl rfl
      have hv1 := hv.oneCell
      replace hp := hp.mono hS1
      have hdg : Hid ((hash c).take 16 = dig (t : Int) parts) := Lib.hid (by rw [hc.out, dig]; rfl)
      haveI : LenIs ((hash c).take 16) 16 := ⟨by rw [List.length_take, hash_len]; rfl⟩
      repeat' (first | (((with_reducible refine Sl.k_call ?_; (first | (refine s_call (refSum_c _ hst _ c hv (by omega)) inX rfl ?_; clear hst; rintro v w ⟨rfl, hst⟩) | (refine s_call (refShort_c _ hst _ (hash_len _)) inX rfl ?_; clear hst; rintro v w ⟨rfl, hst⟩)))) <;> (try refine nY ?_) <;> (try replace hst := nH hst)) | ((fail_if_success (go_big_may)); (go_step)) | (((with_reducible refine Sl.k_call ?_; (refine s_qt hst (by exact qt_len evX asX inX) ?_))) <;> (try refine nY ?_)) | (with_reducible refine Sl.gate rfl ?_; (go_step)) | (((((with_reducible refine Sl.k_store ?_; (refine s_stD hst rfl BoxIn.h inX evX inX lenX ?_); clear hst; intro w hst)))) <;> (try refine nY ?_) <;> (try replace hst := nH hst)))
      exact ret_D rfl hst rfl BoxIn.h inX inX ⟨_, rfl, by rw [hdg.out], St.weaken hS1 hst.drop⟩
end Go.Proofs.YtlimhgamebnfeaaDoor

/- Package manifest: the reference's encoders, walked. -/
--@u32
--@hgp
--@flat
--@dg
--@ex0
namespace Go.Proofs.YtlimhgamebnfeaaDoor
set_option linter.unusedSimpArgs false
set_option linter.unusedVariables false
open Go.RowKit Go.Sl

theorem encMF_eq4 (m : MF) : encMF m = encI m.1 ++ (encI m.2.1 ++ (encI m.2.2.1 ++ encD m.2.2.2.1)) := by simp [encMF]

set_option maxRecDepth 8000 in
set_option maxHeartbeats 1000000 in
theorem rmf_c {S M} (w : World) (hst : St S M w) (cs : List Value) (m : MF) (hR : Rep.R S cs m) (hB : (encMF m).length ≤ 1048576) :
    Rets Tryd.prog 42 [.agg cs.toArray] w fun v w' => OwnB S M (encMF m) v w' := by
  unfold Rets
  obtain ⟨i1, i2, i3, i4⟩ := mf_ok hR
  have hl4 := encD_ge _ i4
  rw [encMF_eq4] at hB ⊢
  simp only [List.length_append] at hB
  go_enter Tryd.func42, Tryd.ntmps42
  repeat' ((fail_if_success (with_reducible show Code.wp _ (Code.region 1 _ _) _ _ _)); first | ((fail_if_success (go_big_may)); (go_step)) | (((((refine s_box hst evX rfl ?_; clear hst; intro bx w hst)))) <;> (try refine nY ?_) <;> (try replace hst := nH hst)))
  obtain ⟨S1, hS1, hst, hpe⟩ := pt_box (α := MF) hst hR (Rep.len hR)
  repeat' (((fail_if_success (go_big_may)); (go_step)))
  refine s_lit (vs := []) (cs := []) hst inX inX rfl rfl (by simp) rfl (by omega) (by omega) ?_
  clear hst; intro x0 w hst
  (try refine nY ?_)
  repeat' (first | (((with_reducible (refine Sl.k_field ?_; refine s_ex hst (qt_fieldp evX hpe inX inX rfl) ?_; rintro vf hpf))) <;> (try refine nY ?_)) | (((with_reducible refine Sl.k_call ?_; ((refine s_call (refInt_c _ hst m.1 i1) inX rfl ?_; clear hst; rintro v w hst)))) <;> (try refine nY ?_) <;> (try replace hst := nH hst)) | (((with_reducible refine Sl.k_load ?_; ((refine s_ex hst (qt_ldp_int evX asX inX) ?_; rintro v ⟨rfl, hI⟩)))) <;> (try refine nY ?_)))
  refine s_append (j := 0) hst evX evX SlIn.h rfl inX inX inX (u8s_one _) (by omega) (by omega) (by decide) ?_
  clear hst; intro v' w hst
  (try refine nY ?_)
  (try replace hst := nH hst)
  replace hst := hst.drop
  repeat' (first | (((with_reducible (refine Sl.k_field ?_; refine s_ex hst (qt_fieldp evX hpe inX inX rfl) ?_; rintro vf hpf))) <;> (try refine nY ?_)) | (((with_reducible refine Sl.k_call ?_; ((refine s_call (refInt_c _ hst m.2.1 i2) inX rfl ?_; clear hst; rintro v w hst)))) <;> (try refine nY ?_) <;> (try replace hst := nH hst)) | ((fail_if_success (go_big_may)); (go_step)) | (((with_reducible refine Sl.k_load ?_; ((refine s_ex hst (qt_ldp_int evX asX inX) ?_; rintro v ⟨rfl, hI⟩)))) <;> (try refine nY ?_)))
  refine s_append (j := 0) hst evX evX SlIn.h rfl inX inX inX (u8s_one _) (by omega) (by omega) (by decide) ?_
  clear hst; intro v' w hst
  (try refine nY ?_)
  (try replace hst := nH hst)
  replace hst := hst.drop
  repeat' (first | (((with_reducible (refine Sl.k_field ?_; refine s_ex hst (qt_fieldp evX hpe inX inX rfl) ?_; rintro vf hpf))) <;> (try refine nY ?_)) | (((with_reducible refine Sl.k_call ?_; ((refine s_call (refInt_c _ hst m.2.2.1 i3) inX rfl ?_; clear hst; rintro v w hst)))) <;> (try refine nY ?_) <;> (try replace hst := nH hst)) | ((fail_if_success (go_big_may)); (go_step)) | (((with_reducible refine Sl.k_load ?_; ((refine s_ex hst (qt_ldp_int evX asX inX) ?_; rintro v ⟨rfl, hI⟩)))) <;> (try refine nY ?_)))
  refine s_append (j := 0) hst evX evX SlIn.h rfl inX inX inX (u8s_one _) (by omega) (by omega) (by decide) ?_
  clear hst; intro v' w hst
  (try refine nY ?_)
  (try replace hst := nH hst)
  replace hst := hst.drop
  repeat' (first | (((with_reducible (refine Sl.k_field ?_; refine s_ex hst (qt_fieldp evX hpe inX inX rfl) ?_; rintro vf hpf))) <;> (try refine nY ?_)) | (((with_reducible refine Sl.k_call ?_; ((refine s_call (refDigs_c _ hst _ m.2.2.2.1 hvl (by omega)) inX rfl ?_; clear hst; rintro v w hst)))) <;> (try refine nY ?_) <;> (try replace hst := nH hst)) | ((fail_if_success (go_big_may)); (go_step)) | (((with_reducible refine Sl.k_load ?_; ((refine s_ex hst (qt_ldp_list evX asX inX) ?_; rintro v ⟨hvl, hv1⟩)))) <;> (try refine nY ?_)))
  refine s_append (j := 0) hst evX evX SlIn.h rfl inX inX inX (u8s_one _) (by omega) (by omega) (by decide) ?_
  clear hst; intro v' w hst
  (try refine nY ?_)
  (try replace hst := nH hst)
  replace hst := hst.drop
  repeat' (((fail_if_success (go_big_may)); (go_step)))
  go_ret
  refine ⟨_, rfl, St.weaken hS1 ?_⟩
  simp only [OwnB, u8s_append, List.length_append]
  simp only [List.nil_append, List.append_assoc, Nat.zero_add, Nat.add_assoc] at hst
  exact hst

set_option maxRecDepth 8000 in
set_option maxHeartbeats 1000000 in
theorem rks_c {S M} (w : World) (hst : St S M w) (cs : List Value) (m : MF) (hR : Rep.R S cs m) (hB : (encMF m).length ≤ 1048576) :
    Rets Tryd.prog 46 [.agg cs.toArray] w fun v w' => OwnB S M (encMF m) v w' := by
  unfold Rets
  obtain ⟨i1, i2, i3, i4⟩ := mf_ok hR
  have hl4 := encD_ge _ i4
  rw [encMF_eq4] at hB ⊢
  simp only [List.length_append] at hB
  go_enter Tryd.func46, Tryd.ntmps46
  repeat' ((fail_if_success (with_reducible show Code.wp _ (Code.region 1 _ _) _ _ _)); first | ((fail_if_success (go_big_may)); (go_step)) | (((((refine s_box hst evX rfl ?_; clear hst; intro bx w hst)))) <;> (try refine nY ?_) <;> (try replace hst := nH hst)))
  obtain ⟨S1, hS1, hst, hpe⟩ := pt_box (α := MF) hst hR (Rep.len hR)
  repeat' (((fail_if_success (go_big_may)); (go_step)))
  refine s_lit (vs := []) (cs := []) hst inX inX rfl rfl (by simp) rfl (by omega) (by omega) ?_
  clear hst; intro x0 w hst
  (try refine nY ?_)
  repeat' (first | (((with_reducible (refine Sl.k_field ?_; refine s_ex hst (qt_fieldp evX hpe inX inX rfl) ?_; rintro vf hpf))) <;> (try refine nY ?_)) | (((with_reducible refine Sl.k_call ?_; ((refine s_call (refInt_c _ hst m.1 i1) inX rfl ?_; clear hst; rintro v w hst)))) <;> (try refine nY ?_) <;> (try replace hst := nH hst)) | (((with_reducible refine Sl.k_load ?_; ((refine s_ex hst (qt_ldp_int evX asX inX) ?_; rintro v ⟨rfl, hI⟩)))) <;> (try refine nY ?_)))
  refine s_append (j := 0) hst evX evX SlIn.h rfl inX inX inX (u8s_one _) (by omega) (by omega) (by decide) ?_
  clear hst; intro v' w hst
  (try refine nY ?_)
  (try replace hst := nH hst)
  replace hst := hst.drop
  repeat' (first | (((with_reducible (refine Sl.k_field ?_; refine s_ex hst (qt_fieldp evX hpe inX inX rfl) ?_; rintro vf hpf))) <;> (try refine nY ?_)) | (((with_reducible refine Sl.k_call ?_; ((refine s_call (refInt_c _ hst m.2.1 i2) inX rfl ?_; clear hst; rintro v w hst)))) <;> (try refine nY ?_) <;> (try replace hst := nH hst)) | ((fail_if_success (go_big_may)); (go_step)) | (((with_reducible refine Sl.k_load ?_; ((refine s_ex hst (qt_ldp_int evX asX inX) ?_; rintro v ⟨rfl, hI⟩)))) <;> (try refine nY ?_)))
  refine s_append (j := 0) hst evX evX SlIn.h rfl inX inX inX (u8s_one _) (by omega) (by omega) (by decide) ?_
  clear hst; intro v' w hst
  (try refine nY ?_)
  (try replace hst := nH hst)
  replace hst := hst.drop
  repeat' (first | (((with_reducible (refine Sl.k_field ?_; refine s_ex hst (qt_fieldp evX hpe inX inX rfl) ?_; rintro vf hpf))) <;> (try refine nY ?_)) | (((with_reducible refine Sl.k_call ?_; ((refine s_call (refInt_c _ hst m.2.2.1 i3) inX rfl ?_; clear hst; rintro v w hst)))) <;> (try refine nY ?_) <;> (try replace hst := nH hst)) | ((fail_if_success (go_big_may)); (go_step)) | (((with_reducible refine Sl.k_load ?_; ((refine s_ex hst (qt_ldp_int evX asX inX) ?_; rintro v ⟨rfl, hI⟩)))) <;> (try refine nY ?_)))
  refine s_append (j := 0) hst evX evX SlIn.h rfl inX inX inX (u8s_one _) (by omega) (by omega) (by decide) ?_
  clear hst; intro v' w hst
  (try refine nY ?_)
  (try replace hst := nH hst)
  replace hst := hst.drop
  repeat' (first | (((with_reducible (refine Sl.k_field ?_; refine s_ex hst (qt_fieldp evX hpe inX inX rfl) ?_; rintro vf hpf))) <;> (try refine nY ?_)) | (((with_reducible refine Sl.k_call ?_; ((refine s_call (refDigs_c _ hst _ m.2.2.2.1 hvl (by omega)) inX rfl ?_; clear hst; rintro v w hst)))) <;> (try refine nY ?_) <;> (try replace hst := nH hst)) | ((fail_if_success (go_big_may)); (go_step)) | (((with_reducible refine Sl.k_load ?_; ((refine s_ex hst (qt_ldp_list evX asX inX) ?_; rintro v ⟨hvl, hv1⟩)))) <;> (try refine nY ?_)))
  refine s_append (j := 0) hst evX evX SlIn.h rfl inX inX inX (u8s_one _) (by omega) (by omega) (by decide) ?_
  clear hst; intro v' w hst
  (try refine nY ?_)
  (try replace hst := nH hst)
  replace hst := hst.drop
  repeat' (((fail_if_success (go_big_may)); (go_step)))
  go_ret
  refine ⟨_, rfl, St.weaken hS1 ?_⟩
  simp only [OwnB, u8s_append, List.length_append]
  simp only [List.nil_append, List.append_assoc, Nat.zero_add, Nat.add_assoc] at hst
  exact hst

set_option maxRecDepth 8000 in
set_option maxHeartbeats 1000000 in
theorem renc_c {S M} (w : World) (hst : St S M w) (cs : List Value) (m : MF) (hR : Rep.R S cs m) (hB : (encMF m).length ≤ 1048576) :
    Rets Tryd.prog 14 [.agg cs.toArray] w fun v w' => v = StrV (encMF m) ∧ St S M w' := by
  unfold Rets
  go_enter Tryd.func14, Tryd.ntmps14
  repeat' (first | ((first | (with_reducible (refine Sl.k_load ?_; with_unfolding_all refine s_qt hst (qt_loadF (x0 := m) rfl BoxIn.h hR inX) ?_)) | (with_reducible (refine Sl.k_conv ?_; with_unfolding_all refine s_string_own (k := 0) (b := encMF m) hst rfl rfl inX IntT.u StrT.u ?_))) <;> (try refine nY ?_)) | (((with_reducible refine Sl.k_call ?_; ((refine s_call (rmf_c _ hst cs m hR hB) inX rfl ?_; clear hst; rintro v w hst)))) <;> (try refine nY ?_) <;> (try replace hst := nH hst)) | ((fail_if_success (go_big_may)); (go_step)) | (((((refine s_box hst evX rfl ?_; clear hst; intro bx w hst)))) <;> (try refine nY ?_) <;> (try replace hst := nH hst)))
  go_ret
  exact ⟨_, rfl, rfl, hst.drop.drop⟩

set_option maxRecDepth 8000 in
set_option maxHeartbeats 1000000 in
theorem rencK_c {S M} (w : World) (hst : St S M w) (cs : List Value) (m : MF) (hR : Rep.R S cs m) (hB : (encMF m).length ≤ 1048576) :
    Rets Tryd.prog 18 [.agg cs.toArray] w fun v w' => v = StrV (encMF m) ∧ St S M w' := by
  unfold Rets
  go_enter Tryd.func18, Tryd.ntmps18
  repeat' (first | ((first | (with_reducible (refine Sl.k_load ?_; with_unfolding_all refine s_qt hst (qt_loadF (x0 := m) rfl BoxIn.h hR inX) ?_)) | (with_reducible (refine Sl.k_conv ?_; with_unfolding_all refine s_string_own (k := 0) (b := encMF m) hst rfl rfl inX IntT.u StrT.u ?_))) <;> (try refine nY ?_)) | (((with_reducible refine Sl.k_call ?_; ((refine s_call (rks_c _ hst cs m hR hB) inX rfl ?_; clear hst; rintro v w hst)))) <;> (try refine nY ?_) <;> (try replace hst := nH hst)) | ((fail_if_success (go_big_may)); (go_step)) | (((((refine s_box hst evX rfl ?_; clear hst; intro bx w hst)))) <;> (try refine nY ?_) <;> (try replace hst := nH hst)))
  go_ret
  exact ⟨_, rfl, rfl, hst.drop.drop⟩

set_option maxRecDepth 8000 in
set_option maxHeartbeats 2000000 in
theorem rsigned_c {S M} (w : World) (hst : St S M w) (vl : Value) (l : List SD) (hl : RSl S vl l) (hm : l.length ≤ 1048576) (hB : (encLs encSD l).length ≤ 1048576) :
    Rets Tryd.prog 51 [vl] w fun v w' => OwnB S M (encLs encSD l) v w' := by
  unfold Rets
  have hI := len_i64 hm
  unfold encLs at hB
  rw [List.length_append] at hB
  go_enter Tryd.func51, Tryd.ntmps51
  repeat' (((fail_if_success (go_big_may)); (go_step)))
  refine s_lit (vs := []) (cs := []) hst inX inX rfl rfl (by simp) rfl (by omega) (by omega) ?_
  clear hst; intro x0 w hst
  (try refine nY ?_)
  repeat' (first | (((with_reducible refine Sl.k_call ?_; ((refine s_call (refInt_c _ hst (l.length : Int) hI) inX rfl ?_; clear hst; rintro v w hst)))) <;> (try refine nY ?_) <;> (try replace hst := nH hst)) | ((fail_if_success (go_big_may)); (go_step)) | (((with_reducible refine Sl.k_call ?_; (refine s_qt hst (by exact qt_len evX asX inX) ?_))) <;> (try refine nY ?_)))
  refine s_append (j := 0) hst evX evX SlIn.h rfl inX inX inX (u8s_one _) (by omega) (by omega) (by decide) ?_
  clear hst; intro v' w hst
  (try refine nY ?_)
  (try replace hst := nH hst)
  replace hst := hst.drop
  (try simp only [List.nil_append, Nat.zero_add] at hst)
  repeat' (((fail_if_success (go_big_may)); (go_step)))
  go_loopw [3, 4] (fun u b wr => ∃ i : Nat, i ≤ l.length ∧ b = .int .i64 (i : Nat) ∧ St S (.sl u u8T 1 (encI l.length ++ (l.take i).flatMap encSD).length (u8s (encI l.length ++ (l.take i).flatMap encSD)) :: M) wr) (fun _ b _ => l.length - (intOf b).toNat)
  case atStart => exact ⟨0, Nat.zero_le _, rfl, by simpa using hst⟩
  case round =>
    clear hst
    obtain ⟨i, hi, rfl, hst⟩ := hrel
    by_cases hlt : i < l.length
    · have e1 := fm_take (enc := encSD) hlt
      have e2 := fm_le (enc := encSD) (l := l) (i + 1)
      rw [e1, List.length_append] at e2
      have e3 : (encI (l.length : Int) ++ (l.take i).flatMap encSD).length = (encI (l.length : Int)).length + ((l.take i).flatMap encSD).length := List.length_append
      have e4 : ((encI (l.length : Int) ++ (l.take i).flatMap encSD) ++ encSD l[i]) = encI (l.length : Int) ++ (l.take (i + 1)).flatMap encSD := by rw [e1, List.append_assoc]
      have E4 := Lib.hid e4
      clear e4 e1
      generalize encI (l.length : Int) ++ (l.take i).flatMap encSD = c at *
      have hsd : SdIn l[i] := by
        obtain ⟨j, hj⟩ : ∃ j, j = i := ⟨_, rfl⟩
        rcases hl with ⟨ad, cap, _, h, _⟩ | ⟨b, o, cap, c, T, fz, _, _, _, _, h⟩
        · subst h; simp at hlt
        · exact sd_in (h.at_ i hlt)
      obtain ⟨j1, j2, j3, j4⟩ := hsd
      have k3 := encD_ge _ j3
      have k4 := encD_ge _ j4
      have ex : encSD l[i] = encI l[i].1 ++ (encI l[i].2.1.1 ++ (encD l[i].2.1.2.1 ++ encD l[i].2.1.2.2.1)) := by simp [encSD]
      rw [ex] at e2 E4
      simp only [List.length_append] at e2
      repeat' ((fail_if_success (with_reducible show Code.wp _ (Code.region 6 _ _) _ _ _)); first | (((with_reducible refine Sl.k_call ?_; ((refine s_call (refInt_c _ hst l[i].1 j1) inX rfl ?_; clear hst; rintro v w hst)))) <;> (try refine nY ?_) <;> (try replace hst := nH hst)) | ((fail_if_success (go_big_may)); (go_step)) | ((first | (with_reducible refine Sl.k_load ?_; ((refine s_ex hst (qt_ldp_int evX asX inX) ?_; rintro v ⟨rfl, hI⟩))) | (with_reducible refine Sl.k_field ?_; (((refine s_ex hst (qt_fieldp evX asX inX inX rfl) ?_); rintro v hp; (try simp only [Int.toNat_natCast, Int.toNat_natCast_add_one, Int.reduceToNat] at hp)))) | (with_reducible refine Sl.k_index ?_; (((refine s_ex hst (qt_index evX asX rfl inX inX omX omX) ?_); rintro v hp; (try simp only [Int.toNat_natCast, Int.toNat_natCast_add_one, Int.reduceToNat] at hp)))) | (with_reducible refine Sl.k_call ?_; (refine s_qt hst (by exact qt_len evX asX inX) ?_))) <;> (try refine nY ?_)) | (with_reducible refine Sl.gate rfl ?_; (go_step)))
      refine s_append (j := 0) hst evX evX SlIn.h rfl inX inX inX (u8s_one _) (by omega) (by omega) (by decide) ?_
      clear hst; intro v' w hst
      (try refine nY ?_)
      (try replace hst := nH hst)
      replace hst := hst.drop
      repeat' ((fail_if_success (with_reducible show Code.wp _ (Code.region 7 _ _) _ _ _)); first | (((with_reducible refine Sl.k_call ?_; ((refine s_call (refInt_c _ hst l[i].2.1.1 j2) inX rfl ?_; clear hst; rintro v w hst)))) <;> (try refine nY ?_) <;> (try replace hst := nH hst)) | ((fail_if_success (go_big_may)); (go_step)) | ((first | (with_reducible refine Sl.k_load ?_; ((refine s_ex hst (qt_ldp_int evX asX inX) ?_; rintro v ⟨rfl, hI⟩))) | (with_reducible refine Sl.k_field ?_; (((refine s_ex hst (qt_fieldp evX asX inX inX rfl) ?_); rintro v hp; (try simp only [Int.toNat_natCast, Int.toNat_natCast_add_one, Int.reduceToNat] at hp)))) | (with_reducible refine Sl.k_index ?_; (((refine s_ex hst (qt_index evX asX rfl inX inX omX omX) ?_); rintro v hp; (try simp only [Int.toNat_natCast, Int.toNat_natCast_add_one, Int.reduceToNat] at hp))))) <;> (try refine nY ?_)))
      refine s_append (j := 0) hst evX evX SlIn.h rfl inX inX inX (u8s_one _) (by omega) (by omega) (by decide) ?_
      clear hst; intro v' w hst
      (try refine nY ?_)
      (try replace hst := nH hst)
      replace hst := hst.drop
      repeat' ((fail_if_success (with_reducible show Code.wp _ (Code.region 8 _ _) _ _ _)); first | (((with_reducible refine Sl.k_call ?_; ((refine s_call (refDigs_c _ hst _ l[i].2.1.2.1 hvl (by omega)) inX rfl ?_; clear hst; rintro v w hst)))) <;> (try refine nY ?_) <;> (try replace hst := nH hst)) | ((fail_if_success (go_big_may)); (go_step)) | ((first | (with_reducible refine Sl.k_load ?_; ((refine s_ex hst (qt_ldp_list evX asX inX) ?_; rintro v ⟨hvl, hv1⟩))) | (with_reducible refine Sl.k_field ?_; (((refine s_ex hst (qt_fieldp evX asX inX inX rfl) ?_); rintro v hp; (try simp only [Int.toNat_natCast, Int.toNat_natCast_add_one, Int.reduceToNat] at hp)))) | (with_reducible refine Sl.k_index ?_; (((refine s_ex hst (qt_index evX asX rfl inX inX omX omX) ?_); rintro v hp; (try simp only [Int.toNat_natCast, Int.toNat_natCast_add_one, Int.reduceToNat] at hp))))) <;> (try refine nY ?_)))
      refine s_append (j := 0) hst evX evX SlIn.h rfl inX inX inX (u8s_one _) (by omega) (by omega) (by decide) ?_
      clear hst; intro v' w hst
      (try refine nY ?_)
      (try replace hst := nH hst)
      replace hst := hst.drop
      repeat' (first | (((with_reducible refine Sl.k_call ?_; ((refine s_call (refDigs_c _ hst _ l[i].2.1.2.2.1 hvl (by omega)) inX rfl ?_; clear hst; rintro v w hst)))) <;> (try refine nY ?_) <;> (try replace hst := nH hst)) | ((fail_if_success (go_big_may)); (go_step)) | ((first | (with_reducible refine Sl.k_load ?_; ((refine s_ex hst (qt_ldp_list evX asX inX) ?_; rintro v ⟨hvl, hv1⟩))) | (with_reducible refine Sl.k_field ?_; (((refine s_ex hst (qt_fieldp evX asX inX inX rfl) ?_); rintro v hp; (try simp only [Int.toNat_natCast, Int.toNat_natCast_add_one, Int.reduceToNat] at hp)))) | (with_reducible refine Sl.k_index ?_; (((refine s_ex hst (qt_index evX asX rfl inX inX omX omX) ?_); rintro v hp; (try simp only [Int.toNat_natCast, Int.toNat_natCast_add_one, Int.reduceToNat] at hp))))) <;> (try refine nY ?_)))
      refine s_append (j := 0) hst evX evX SlIn.h rfl inX inX inX (u8s_one _) (by omega) (by omega) (by decide) ?_
      clear hst; intro v' w hst
      (try refine nY ?_)
      (try replace hst := nH hst)
      replace hst := hst.drop
      repeat' (first | ((fail_if_success (go_big_may)); (go_step)) | (with_reducible refine Sl.gate rfl ?_; (go_step)))
      go_roundw
      case rel =>
        refine ⟨i + 1, by omega, by go_num, ?_⟩
        rw [← E4.out]
        simp only [List.length_append, u8s_append]
        simp only [List.append_assoc, Nat.add_assoc] at hst ⊢
        exact hst
      case measure => simp [intOf]; omega
    · repeat' (first | ((fail_if_success (go_big_may)); (go_step)) | (((with_reducible refine Sl.k_call ?_; (refine s_qt hst (by exact qt_len evX asX inX) ?_))) <;> (try refine nY ?_)) | (with_reducible refine Sl.gate rfl ?_; (go_step)))
      go_ret
      rw [List.take_of_length_le (by omega)] at hst
      exact ⟨_, rfl, hst⟩

end Go.Proofs.YtlimhgamebnfeaaDoor

/- Package manifest: the reference's encoders of bundles and rotations; its digests and validity, walked. -/
--@u32
--@hgp
--@flat
--@dg
--@ex0
namespace Go.Proofs.YtlimhgamebnfeaaDoor
set_option linter.unusedSimpArgs false
set_option linter.unusedVariables false
open Go.RowKit Go.Sl

set_option maxRecDepth 8000 in
set_option maxHeartbeats 2000000 in
theorem rencRO_c {S M} (w : World) (hst : St S M w) (cs : List Value) (u : RO) (hR : Rep.R S cs u) (hm1 : u.2.1.length ≤ 1048576) (hB : (encRO u).length ≤ 1048576) :
    Rets Tryd.prog 26 [.agg cs.toArray] w fun v w' => v = StrV (encRO u) ∧ St S M w' := by
  unfold Rets
  have hE : encRO u = encMF u.1 ++ encLs encSD u.2.1 := by simp [encRO]
  rw [hE] at hB ⊢
  simp only [List.length_append] at hB
  have hB1 : (encMF u.1).length ≤ 1048576 := by omega
  have hB2 : (encLs encSD u.2.1).length ≤ 1048576 := by omega
  go_enter Tryd.func26, Tryd.ntmps26
  repeat' ((fail_if_success (with_reducible show Code.wp _ (Code.region 1 _ _) _ _ _)); first | ((fail_if_success (go_big_may)); (go_step)) | (((((refine s_box hst evX rfl ?_; clear hst; intro bx w hst)))) <;> (try refine nY ?_) <;> (try replace hst := nH hst)))
  obtain ⟨S1, hS1, hst, hpe⟩ := pt_box (α := RO) hst hR (Rep.len hR)
  refine v_begin hst (by kernel_rfl) ?_; clear hst; intro ops; (try refine nY ?_)
  ((refine t_ex0 0 rfl (by kernel_rfl) rfl rfl (qt_fieldp evX hpe inX inX rfl ) ?_; rintro  v0 hp0)) <;> (try refine nY ?_)
  ((refine t_ex0 1 rfl (by kernel_rfl) rfl rfl (qt_ldp evX hp0 inX ) ?_; rintro  v1 ⟨c1, rfl, hc1⟩)) <;> (try refine nY ?_)
  ((refine t_ex0 3 rfl (by kernel_rfl) rfl rfl (qt_fieldp evX hpe inX inX rfl ) ?_; rintro  v3 hp3)) <;> (try refine nY ?_)
  ((refine t_ex0 4 rfl (by kernel_rfl) rfl rfl (qt_ldp_list evX hp3 inX ) ?_; rintro  v4 ⟨hvl4, hv14⟩)) <;> (try refine nY ?_)
  refine v_one 2 rfl (by kernel_rfl) ?_; intro w hst K hK; refine s_call (rks_c w hst c1 u.1 hc1 hB1) inX rfl ?_; clear hst; intro x2 w hst; (try refine nY ?_); (try replace hst := nH hst); refine v_next hK hst (Snap.Le.refl _) (Suf.cons (Suf.refl _)) ?_; clear hst hK K; (try clear w); (try refine nY ?_)
  refine v_one 5 rfl (by kernel_rfl) ?_; intro w hst K hK; refine s_call (rsigned_c w hst v4 u.2.1 hvl4 hm1 hB2) inX rfl ?_; clear hst; intro x5 w hst; (try refine nY ?_); (try replace hst := nH hst); refine v_next hK hst (Snap.Le.refl _) (Suf.cons (Suf.refl _)) ?_; clear hst hK K; (try clear w); (try refine nY ?_)
  refine v_one 6 rfl (by kernel_rfl) ?_; intro w hst K hK; refine s_append (j := 0) hst evX evX SlIn.h rfl inX inX inX (u8s_one _) (by omega) (by omega) (by decide) ?_; clear hst; intro x6 w hst; simp only [List.set_cons_zero, List.set_cons_succ] at hst; replace hst := hst.drop; rw [← u8s_append, ← List.length_append] at hst; refine v_last hK hst ?_; clear hst hK K; (try clear w); (try refine nY ?_)
  refine v_one 7 rfl (by kernel_rfl) ?_; intro w hst K hK; with_unfolding_all refine s_string_own (k := 0) (b := encMF u.1 ++ encLs encSD u.2.1) hst rfl rfl inX IntT.u StrT.u ?_; (try refine nY ?_); (try replace hst := nH hst); refine v_next hK hst (Snap.Le.refl _) (Suf.refl _) ?_; clear hst hK K; (try clear w); (try refine nY ?_)
  (refine t_qt 8 rfl (by kernel_rfl) rfl rfl (by exact qt_assign evX) ?_) <;> (try refine nY ?_)
  refine v_done (by kernel_rfl) ?_; clear ops; intro w hst
  all_goals
    repeat' (((fail_if_success (go_big_may)); (go_step)))
    go_ret
    exact ⟨_, rfl, rfl, (St.weaken hS1 hst).drop⟩

set_option maxRecDepth 8000 in
set_option maxHeartbeats 2000000 in
theorem rencBU_c {S M} (w : World) (hst : St S M w) (cs : List Value) (u : BU) (hR : Rep.R S cs u) (hm1 : u.2.1.length ≤ 1048576) (hm2 : u.2.2.1.length ≤ 1048576) (hB : (encBU u).length ≤ 1048576) :
    Rets Tryd.prog 24 [.agg cs.toArray] w fun v w' => v = StrV (encBU u) ∧ St S M w' := by
  unfold Rets
  have hE : encBU u = ((encMF u.1 ++ encLs encSD u.2.1) ++ encI u.2.2.1.length) ++ u.2.2.1.flatMap encSt := by simp [encBU, encLs]
  rw [hE] at hB ⊢
  simp only [List.length_append] at hB
  have hB1 : (encMF u.1).length ≤ 1048576 := by omega
  have hB2 : (encLs encSD u.2.1).length ≤ 1048576 := by omega
  have hI := len_i64 hm2
  go_enter Tryd.func24, Tryd.ntmps24
  repeat' ((fail_if_success (with_reducible show Code.wp _ (Code.region 1 _ _) _ _ _)); first | ((fail_if_success (go_big_may)); (go_step)) | (((((refine s_box hst evX rfl ?_; clear hst; intro bx w hst)))) <;> (try refine nY ?_) <;> (try replace hst := nH hst)))
  obtain ⟨S1, hS1, hst, hpe⟩ := pt_box (α := BU) hst hR (Rep.len hR)
  refine v_begin hst (by kernel_rfl) ?_; clear hst; intro ops; (try refine nY ?_)
  ((refine t_ex0 0 rfl (by kernel_rfl) rfl rfl (qt_fieldp evX hpe inX inX rfl ) ?_; rintro  v0 hp0)) <;> (try refine nY ?_)
  ((refine t_ex0 1 rfl (by kernel_rfl) rfl rfl (qt_ldp evX hp0 inX ) ?_; rintro  v1 ⟨c1, rfl, hc1⟩)) <;> (try refine nY ?_)
  ((refine t_ex0 3 rfl (by kernel_rfl) rfl rfl (qt_fieldp evX hpe inX inX rfl ) ?_; rintro  v3 hp3)) <;> (try refine nY ?_)
  ((refine t_ex0 4 rfl (by kernel_rfl) rfl rfl (qt_ldp_list evX hp3 inX ) ?_; rintro  v4 ⟨hvl4, hv14⟩)) <;> (try refine nY ?_)
  refine v_one 2 rfl (by kernel_rfl) ?_; intro w hst K hK; refine s_call (rmf_c w hst c1 u.1 hc1 hB1) inX rfl ?_; clear hst; intro x2 w hst; (try refine nY ?_); (try replace hst := nH hst); refine v_next hK hst (Snap.Le.refl _) (Suf.cons (Suf.refl _)) ?_; clear hst hK K; (try clear w); (try refine nY ?_)
  refine v_one 5 rfl (by kernel_rfl) ?_; intro w hst K hK; refine s_call (rsigned_c w hst v4 u.2.1 hvl4 hm1 hB2) inX rfl ?_; clear hst; intro x5 w hst; (try refine nY ?_); (try replace hst := nH hst); refine v_next hK hst (Snap.Le.refl _) (Suf.cons (Suf.refl _)) ?_; clear hst hK K; (try clear w); (try refine nY ?_)
  refine v_one 6 rfl (by kernel_rfl) ?_; intro w hst K hK; refine s_append (j := 0) hst evX evX SlIn.h rfl inX inX inX (u8s_one _) (by omega) (by omega) (by decide) ?_; clear hst; intro x6 w hst; simp only [List.set_cons_zero, List.set_cons_succ] at hst; replace hst := hst.drop; rw [← u8s_append, ← List.length_append] at hst; refine v_last hK hst ?_; clear hst hK K; (try clear w); (try refine nY ?_)
  (refine t_qt 7 rfl (by kernel_rfl) rfl rfl (by exact qt_assign evX) ?_) <;> (try refine nY ?_)
  refine v_done (by kernel_rfl) ?_; clear ops; intro w hst
  have e0 : (encMF u.1 ++ encLs encSD u.2.1).length = (encMF u.1).length + (encLs encSD u.2.1).length := List.length_append
  generalize hpq : encMF u.1 ++ encLs encSD u.2.1 = pre0 at *
  have Hpq := Lib.hid hpq
  clear hpq
  repeat' (first | (((with_reducible (refine Sl.k_field ?_; refine s_ex hst (qt_fieldp evX hpe inX inX rfl) ?_; rintro vf hpf))) <;> (try refine nY ?_)) | (((with_reducible refine Sl.k_call ?_; ((refine s_call (refInt_c _ hst (u.2.2.1.length : Int) hI) inX rfl ?_; clear hst; rintro v w hst)))) <;> (try refine nY ?_) <;> (try replace hst := nH hst)) | ((fail_if_success (go_big_may)); (go_step)) | ((first | (with_reducible refine Sl.k_load ?_; ((refine s_ex hst (qt_ldp_list evX asX inX) ?_; rintro v ⟨hvl, hv1⟩))) | (with_reducible refine Sl.k_call ?_; (refine s_qt hst (by exact qt_len evX asX inX) ?_))) <;> (try refine nY ?_)))
  refine s_append (j := 0) hst evX evX SlIn.h rfl inX inX inX (u8s_one _) (by omega) (by omega) (by decide) ?_
  clear hst; intro v' w hst
  (try refine nY ?_)
  (try replace hst := nH hst)
  replace hst := hst.drop
  rw [← u8s_append, ← List.length_append] at hst
  have e1 : (pre0 ++ encI u.2.2.1.length).length = pre0.length + (encI u.2.2.1.length).length := List.length_append
  generalize hpr : pre0 ++ encI u.2.2.1.length = pre at *
  have Hpr := Lib.hid hpr
  clear hpr
  repeat' (((fail_if_success (go_big_may)); (go_step)))
  go_loopw [3, 4] (fun o b wr => ∃ i : Nat, i ≤ u.2.2.1.length ∧ b = .int .i64 (i : Nat) ∧ St S1 (.sl o u8T 1 (pre ++ (u.2.2.1.take i).flatMap encSt).length (u8s (pre ++ (u.2.2.1.take i).flatMap encSt)) :: M) wr) (fun _ b _ => u.2.2.1.length - (intOf b).toNat)
  case atStart => exact ⟨0, Nat.zero_le _, rfl, by simpa using hst⟩
  case round =>
    clear hst
    obtain ⟨i, hi, rfl, hst⟩ := hrel
    by_cases hlt : i < u.2.2.1.length
    · have e1 := fm_take (enc := encSt) hlt
      have e2 := fm_le (enc := encSt) (l := u.2.2.1) (i + 1)
      rw [e1, List.length_append] at e2
      have e3 : (pre ++ (u.2.2.1.take i).flatMap encSt).length = pre.length + ((u.2.2.1.take i).flatMap encSt).length := List.length_append
      have e4 : (pre ++ (u.2.2.1.take i).flatMap encSt) ++ encSt u.2.2.1[i] = pre ++ (u.2.2.1.take (i + 1)).flatMap encSt := by rw [e1, List.append_assoc]
      have E4 := Lib.hid e4
      clear e4 e1
      generalize pre ++ (u.2.2.1.take i).flatMap encSt = c at *
      have hbl : u.2.2.1[i].b.length ≤ 1048576 := by
        have : (encSt u.2.2.1[i]).length = (encI u.2.2.1[i].b.length).length + u.2.2.1[i].b.length := by simp [encB]
        omega
      have e5 : (encB u.2.2.1[i].b).length = (encSt u.2.2.1[i]).length := rfl
      repeat' (first | (((with_reducible (refine Sl.k_field ?_; refine s_ex hst (qt_fieldp evX hpe inX inX rfl) ?_; rintro vf hpf))) <;> (try refine nY ?_)) | (((with_reducible refine Sl.k_call ?_; ((refine s_call (refBytes_c _ hst u.2.2.1[i].b hbl) inX rfl ?_; clear hst; rintro v w hst)))) <;> (try refine nY ?_) <;> (try replace hst := nH hst)) | ((fail_if_success (go_big_may)); (go_step)) | ((first | (with_reducible refine Sl.k_load ?_; (first | (refine s_ex hst (qt_ldp_str evX asX inX) ?_; rintro v ⟨rfl, hs⟩) | (refine s_ex hst (qt_ldp_list evX asX inX) ?_; rintro v ⟨hvl, hv1⟩))) | (with_reducible refine Sl.k_index ?_; (((refine s_ex hst (qt_index evX asX rfl inX inX omX omX) ?_); rintro v hp; (try simp only [Int.toNat_natCast, Int.toNat_natCast_add_one, Int.reduceToNat] at hp)))) | (with_reducible refine Sl.k_call ?_; (refine s_qt hst (by exact qt_len evX asX inX) ?_))) <;> (try refine nY ?_)) | (with_reducible refine Sl.gate rfl ?_; (go_step)))
      refine s_append (j := 0) hst evX evX SlIn.h rfl inX inX inX (u8s_one _) (by omega) (by omega) (by decide) ?_
      clear hst; intro v' w hst
      (try refine nY ?_)
      (try replace hst := nH hst)
      replace hst := hst.drop
      repeat' (first | ((fail_if_success (go_big_may)); (go_step)) | (with_reducible refine Sl.gate rfl ?_; (go_step)))
      go_roundw
      case rel => exact ⟨i + 1, by omega, by go_num, by rw [← E4.out, List.length_append, u8s_append]; exact hst⟩
      case measure => simp [intOf]; omega
    · rw [List.take_of_length_le (by omega)] at hst
      repeat' (first | ((first | (with_reducible (refine Sl.k_field ?_; refine s_ex hst (qt_fieldp evX hpe inX inX rfl) ?_; rintro vf hpf)) | (with_reducible (refine Sl.k_conv ?_; with_unfolding_all refine s_string_own (k := 0) (b := pre ++ u.2.2.1.flatMap encSt) hst rfl rfl inX IntT.u StrT.u ?_))) <;> (try refine nY ?_)) | ((fail_if_success (go_big_may)); (go_step)) | ((first | (with_reducible refine Sl.k_load ?_; ((refine s_ex hst (qt_ldp_list evX asX inX) ?_; rintro v ⟨hvl, hv1⟩))) | (with_reducible refine Sl.k_call ?_; (refine s_qt hst (by exact qt_len evX asX inX) ?_))) <;> (try refine nY ?_)) | (with_reducible refine Sl.gate rfl ?_; (go_step)))
      go_ret
      exact ⟨_, rfl, by rw [Hpq.out, Hpr.out]; rfl, (St.weaken hS1 hst).drop⟩

set_option maxRecDepth 8000 in
set_option maxHeartbeats 1000000 in
theorem rmdig_c {S M} (w : World) (hst : St S M w) (cs : List Value) (m : MF) (hR : Rep.R S cs m) (hB : (encMF m).length ≤ 1000000) :
    Rets Tryd.prog 16 [.agg cs.toArray] w fun v w' => v = dgVm (mdP m) ∧ St S M w' := by
  unfold Rets
  haveI : LenIs (mdP m).l 16 := ⟨mdP_len m⟩
  go_enter Tryd.func16, Tryd.ntmps16
  repeat' (first | (((with_reducible (refine Sl.k_load ?_; with_unfolding_all refine s_qt hst (qt_loadF (x0 := m) rfl BoxIn.h hR inX) ?_))) <;> (try refine nY ?_)) | (((with_reducible refine Sl.k_call ?_; ((refine s_call (rmf_c _ hst cs m hR (by omega)) inX rfl ?_; clear hst; rintro v w hst)))) <;> (try refine nY ?_) <;> (try replace hst := nH hst)) | ((fail_if_success (go_big_may)); (go_step)) | ((((first | (refine s_box hst evX rfl ?_; clear hst; intro bx w hst) | (refine s_alloc hst inX ?_; clear hst; intro bk w hst)))) <;> (try refine nY ?_) <;> (try replace hst := nH hst)))
  obtain ⟨S1, hS1, hstA, hv, ho⟩ : ∃ S', S.Le S' ∧ St S' _ w ∧ RSl S' v (encMF m) ∧ v.oneCell' = true := by
    obtain ⟨S', a, b, c, d⟩ := fz_u8 hst
    exact ⟨S', a, d, b, c⟩
  clear hst
  have hst := hstA
  clear hstA
  refine s_parts hst (Sls.cons hv Sls.nil) inX inX rfl rfl (by simp) ?_
  clear hst; intro S2 u w hS2 hu hou hst
  (try refine nY ?_)
  repeat' (first | (((with_reducible refine Sl.k_call ?_; ((refine s_call (refDigest_c _ hst 12 (by omega) _ _ hu (by simp [sizeB]; omega)) inX rfl ?_; clear hst; rintro v w ⟨rfl, hst⟩)))) <;> (try refine nY ?_) <;> (try replace hst := nH hst)) | ((fail_if_success (go_big_may)); (go_step)) | (((((with_reducible refine Sl.k_store ?_; (refine s_stD hst rfl BoxIn.h inX evX inX lenX ?_); clear hst; intro w hst)))) <;> (try refine nY ?_) <;> (try replace hst := nH hst)))
  exact ret_D rfl hst rfl BoxIn.h inX inX ⟨_, rfl, rfl, (St.weaken (hS1.trans hS2) hst).drop.drop⟩

set_option maxRecDepth 8000 in
set_option maxHeartbeats 1000000 in
theorem rkdig_c {S M} (w : World) (hst : St S M w) (cs : List Value) (m : MF) (hR : Rep.R S cs m) (hB : (encMF m).length ≤ 1000000) :
    Rets Tryd.prog 20 [.agg cs.toArray] w fun v w' => v = dgVm (kdP m) ∧ St S M w' := by
  unfold Rets
  haveI : LenIs (kdP m).l 16 := ⟨kdP_len m⟩
  go_enter Tryd.func20, Tryd.ntmps20
  repeat' (first | (((with_reducible (refine Sl.k_load ?_; with_unfolding_all refine s_qt hst (qt_loadF (x0 := m) rfl BoxIn.h hR inX) ?_))) <;> (try refine nY ?_)) | (((with_reducible refine Sl.k_call ?_; ((refine s_call (rks_c _ hst cs m hR (by omega)) inX rfl ?_; clear hst; rintro v w hst)))) <;> (try refine nY ?_) <;> (try replace hst := nH hst)) | ((fail_if_success (go_big_may)); (go_step)) | ((((first | (refine s_box hst evX rfl ?_; clear hst; intro bx w hst) | (refine s_alloc hst inX ?_; clear hst; intro bk w hst)))) <;> (try refine nY ?_) <;> (try replace hst := nH hst)))
  obtain ⟨S1, hS1, hstA, hv, ho⟩ : ∃ S', S.Le S' ∧ St S' _ w ∧ RSl S' v (encMF m) ∧ v.oneCell' = true := by
    obtain ⟨S', a, b, c, d⟩ := fz_u8 hst
    exact ⟨S', a, d, b, c⟩
  clear hst
  have hst := hstA
  clear hstA
  refine s_parts hst (Sls.cons hv Sls.nil) inX inX rfl rfl (by simp) ?_
  clear hst; intro S2 u w hS2 hu hou hst
  (try refine nY ?_)
  repeat' (first | (((with_reducible refine Sl.k_call ?_; ((refine s_call (refDigest_c _ hst 13 (by omega) _ _ hu (by simp [sizeB]; omega)) inX rfl ?_; clear hst; rintro v w ⟨rfl, hst⟩)))) <;> (try refine nY ?_) <;> (try replace hst := nH hst)) | ((fail_if_success (go_big_may)); (go_step)) | (((((with_reducible refine Sl.k_store ?_; (refine s_stD hst rfl BoxIn.h inX evX inX lenX ?_); clear hst; intro w hst)))) <;> (try refine nY ?_) <;> (try replace hst := nH hst)))
  exact ret_D rfl hst rfl BoxIn.h inX inX ⟨_, rfl, rfl, (St.weaken (hS1.trans hS2) hst).drop.drop⟩

set_option maxRecDepth 8000 in
set_option maxHeartbeats 1000000 in
theorem rsdig_c {S M} (w : World) (hst : St S M w) (b : List UInt8) (hB : b.length ≤ 1000000) :
    Rets Tryd.prog 22 [StrV b] w fun v w' => v = dgVm (sdgP b) ∧ St S M w' := by
  unfold Rets
  haveI : LenIs (sdgP b).l 16 := ⟨sdgP_len b⟩
  go_enter Tryd.func22, Tryd.ntmps22
  repeat' (first | (((with_reducible (refine Sl.k_conv ?_; (with_unfolding_all refine s_bytes (b := b) hst rfl StrT.u inX IntT.u (by omega) ?_); clear hst; intro v4 w hst; have fz := fz_u8 hst; clear hst; obtain ⟨S1, hS1, hv, ho, hst⟩ := fz))) <;> (try refine nY ?_)) | ((fail_if_success (go_big_may)); (go_step)) | (((((refine s_alloc hst inX ?_; clear hst; intro bk w hst)))) <;> (try refine nY ?_) <;> (try replace hst := nH hst)))
  refine s_parts hst (Sls.cons hv Sls.nil) inX inX rfl rfl (by simp) ?_
  clear hst; intro S2 u w hS2 hu hou hst
  (try refine nY ?_)
  repeat' (first | (((with_reducible refine Sl.k_call ?_; ((refine s_call (refDigest_c _ hst 6 (by omega) _ _ hu (by simp [sizeB]; omega)) inX rfl ?_; clear hst; rintro v w ⟨rfl, hst⟩)))) <;> (try refine nY ?_) <;> (try replace hst := nH hst)) | ((fail_if_success (go_big_may)); (go_step)) | (((((with_reducible refine Sl.k_store ?_; (refine s_stD hst rfl BoxIn.h inX evX inX lenX ?_); clear hst; intro w hst)))) <;> (try refine nY ?_) <;> (try replace hst := nH hst)))
  exact ret_D rfl hst rfl BoxIn.h inX inX ⟨_, rfl, rfl, (St.weaken (hS1.trans hS2) hst).drop⟩

set_option maxRecDepth 8000 in
set_option maxHeartbeats 2000000 in
theorem rvalid_c {S M} (w : World) (hst : St S M w) (cs : List Value) (m : MF) (hR : Rep.R S cs m) (hl : m.2.2.2.1.length ≤ 1048576) :
    Rets Tryd.prog 12 [.agg cs.toArray] w fun v w' => v = .bool (validM m) ∧ St S M w' := by
  unfold Rets validM
  by_cases h1 : m.2.1 < 1
  · go_enter Tryd.func12, Tryd.ntmps12
    repeat' ((fail_if_success (with_reducible show Code.wp _ (Code.region 1 _ _) _ _ _)); first | ((fail_if_success (go_big_may)); (go_step)) | (((((refine s_box hst evX rfl ?_; clear hst; intro bx w hst)))) <;> (try refine nY ?_) <;> (try replace hst := nH hst)))
    obtain ⟨S1, hS1, hst, hpe⟩ := pt_box (α := MF) hst hR (Rep.len hR)
    repeat' (first | go_skip | (((with_reducible (refine Sl.k_field ?_; refine s_ex hst (qt_fieldp evX hpe inX inX rfl) ?_; rintro vf hpf))) <;> (try refine nY ?_)) | ((fail_if_success (go_big_may)); (go_step)) | (((with_reducible refine Sl.k_load ?_; ((refine s_ex hst (qt_ldp_int evX asX inX) ?_; rintro v ⟨rfl, hI⟩)))) <;> (try refine nY ?_)) | (with_reducible refine Sl.gate rfl ?_; (go_step)))
    go_ret
    exact ⟨_, rfl, by rw [decide_eq_false (p := 1 ≤ m.2.1 ∧ m.2.1 ≤ m.1) (by omega)]; rfl, St.weaken hS1 hst⟩
  · by_cases h2 : m.1 < m.2.1
    · go_enter Tryd.func12, Tryd.ntmps12
      repeat' ((fail_if_success (with_reducible show Code.wp _ (Code.region 1 _ _) _ _ _)); first | ((fail_if_success (go_big_may)); (go_step)) | (((((refine s_box hst evX rfl ?_; clear hst; intro bx w hst)))) <;> (try refine nY ?_) <;> (try replace hst := nH hst)))
      obtain ⟨S1, hS1, hst, hpe⟩ := pt_box (α := MF) hst hR (Rep.len hR)
      repeat' (first | go_skip | ((first | (with_reducible (refine Sl.k_field ?_; refine s_ex hst (qt_fieldp evX hpe inX inX rfl) ?_; rintro vf hpf)) | (with_reducible refine Sl.k_guard ?_; ((refine Sl.guard_yes rfl ?_)))) <;> (try refine nY ?_)) | ((fail_if_success (go_big_may)); (go_step)) | (((with_reducible refine Sl.k_load ?_; ((refine s_ex hst (qt_ldp_int evX asX inX) ?_; rintro v ⟨rfl, hI⟩)))) <;> (try refine nY ?_)) | (with_reducible refine Sl.gate rfl ?_; (go_step)))
      go_ret
      exact ⟨_, rfl, by rw [decide_eq_false (p := 1 ≤ m.2.1 ∧ m.2.1 ≤ m.1) (by omega)]; rfl, St.weaken hS1 hst⟩
    · rw [decide_eq_true (p := 1 ≤ m.2.1 ∧ m.2.1 ≤ m.1) (by omega)]
      by_cases h3 : m.1 > 16
      · go_enter Tryd.func12, Tryd.ntmps12
        repeat' ((fail_if_success (with_reducible show Code.wp _ (Code.region 1 _ _) _ _ _)); first | ((fail_if_success (go_big_may)); (go_step)) | (((((refine s_box hst evX rfl ?_; clear hst; intro bx w hst)))) <;> (try refine nY ?_) <;> (try replace hst := nH hst)))
        obtain ⟨S1, hS1, hst, hpe⟩ := pt_box (α := MF) hst hR (Rep.len hR)
        repeat' (first | go_skip | ((first | (with_reducible (refine Sl.k_field ?_; refine s_ex hst (qt_fieldp evX hpe inX inX rfl) ?_; rintro vf hpf)) | (with_reducible refine Sl.k_guard ?_; ((refine Sl.guard_yes rfl ?_)))) <;> (try refine nY ?_)) | ((fail_if_success (go_big_may)); (go_step)) | (((with_reducible refine Sl.k_load ?_; ((refine s_ex hst (qt_ldp_int evX asX inX) ?_; rintro v ⟨rfl, hI⟩)))) <;> (try refine nY ?_)) | (with_reducible refine Sl.gate rfl ?_; (go_step)))
        go_ret
        exact ⟨_, rfl, by rw [decide_eq_false (p := m.1 ≤ 16) (by omega)]; rfl, St.weaken hS1 hst⟩
      · rw [decide_eq_true (p := m.1 ≤ 16) (by omega)]
        by_cases h4 : m.2.2.1 < 0
        · go_enter Tryd.func12, Tryd.ntmps12
          repeat' ((fail_if_success (with_reducible show Code.wp _ (Code.region 1 _ _) _ _ _)); first | ((fail_if_success (go_big_may)); (go_step)) | (((((refine s_box hst evX rfl ?_; clear hst; intro bx w hst)))) <;> (try refine nY ?_) <;> (try replace hst := nH hst)))
          obtain ⟨S1, hS1, hst, hpe⟩ := pt_box (α := MF) hst hR (Rep.len hR)
          repeat' (first | go_skip | ((first | (with_reducible (refine Sl.k_field ?_; refine s_ex hst (qt_fieldp evX hpe inX inX rfl) ?_; rintro vf hpf)) | (with_reducible refine Sl.k_guard ?_; ((refine Sl.guard_yes rfl ?_)))) <;> (try refine nY ?_)) | ((fail_if_success (go_big_may)); (go_step)) | (((with_reducible refine Sl.k_load ?_; ((refine s_ex hst (qt_ldp_int evX asX inX) ?_; rintro v ⟨rfl, hI⟩)))) <;> (try refine nY ?_)) | (with_reducible refine Sl.gate rfl ?_; (go_step)))
          go_ret
          exact ⟨_, rfl, by rw [decide_eq_false (p := 0 ≤ m.2.2.1 ∧ m.2.2.1 ≤ 16) (by omega)]; rfl, St.weaken hS1 hst⟩
        · by_cases h5 : m.2.2.1 > 16
          · go_enter Tryd.func12, Tryd.ntmps12
            repeat' ((fail_if_success (with_reducible show Code.wp _ (Code.region 1 _ _) _ _ _)); first | ((fail_if_success (go_big_may)); (go_step)) | (((((refine s_box hst evX rfl ?_; clear hst; intro bx w hst)))) <;> (try refine nY ?_) <;> (try replace hst := nH hst)))
            obtain ⟨S1, hS1, hst, hpe⟩ := pt_box (α := MF) hst hR (Rep.len hR)
            repeat' (first | ((first | (with_reducible (refine Sl.k_field ?_; refine s_ex hst (qt_fieldp evX hpe inX inX rfl) ?_; rintro vf hpf)) | (with_reducible refine Sl.k_guard ?_; ((refine Sl.guard_yes rfl ?_)))) <;> (try refine nY ?_)) | ((fail_if_success (go_big_may)); (go_step)) | (((with_reducible refine Sl.k_load ?_; ((refine s_ex hst (qt_ldp_int evX asX inX) ?_; rintro v ⟨rfl, hI⟩)))) <;> (try refine nY ?_)) | (with_reducible refine Sl.gate rfl ?_; (go_step)))
            go_ret
            exact ⟨_, rfl, by rw [decide_eq_false (p := 0 ≤ m.2.2.1 ∧ m.2.2.1 ≤ 16) (by omega)]; rfl, St.weaken hS1 hst⟩
          · rw [decide_eq_true (p := 0 ≤ m.2.2.1 ∧ m.2.2.1 ≤ 16) (by omega)]
            by_cases h6 : 1 ≤ m.2.2.2.1.length <;> by_cases h7 : m.2.2.2.1.length ≤ 4
            all_goals (try (exfalso; omega))
            all_goals
              go_enter Tryd.func12, Tryd.ntmps12
              repeat' ((fail_if_success (with_reducible show Code.wp _ (Code.region 1 _ _) _ _ _)); first | ((fail_if_success (go_big_may)); (go_step)) | (((((refine s_box hst evX rfl ?_; clear hst; intro bx w hst)))) <;> (try refine nY ?_) <;> (try replace hst := nH hst)))
              obtain ⟨S1, hS1, hst, hpe⟩ := pt_box (α := MF) hst hR (Rep.len hR)
              repeat' (first | go_skip | ((first | (with_reducible (refine Sl.k_field ?_; refine s_ex hst (qt_fieldp evX hpe inX inX rfl) ?_; rintro vf hpf)) | (with_reducible refine Sl.k_guard ?_; (first | (refine Sl.guard_yes rfl ?_) | (refine Sl.guard_cases rfl ?_ ?_ <;> intro hg <;> first | (exfalso; simp only [decide_eq_true_eq, decide_eq_false_iff_not, Bool.not_false, Bool.not_true, beq_iff_eq, beq_eq_false_iff_ne, ne_eq] at hg; omega) | (simp only [hg, Bool.not_true, Bool.not_false])) <;> (try simp only [decide_eq_true_eq, decide_eq_false_iff_not, Bool.not_false, Bool.not_true, beq_iff_eq, beq_eq_false_iff_ne, bne_iff_ne, bne_eq_false_iff_eq, ne_eq] at hg)))) <;> (try refine nY ?_)) | ((fail_if_success (go_big_may)); (go_step)) | ((first | (with_reducible refine Sl.k_load ?_; (first | (refine s_ex hst (qt_ldp_int evX asX inX) ?_; rintro v ⟨rfl, hI⟩) | (refine s_ex hst (qt_ldp_list evX asX inX) ?_; rintro v ⟨hvl, hv1⟩))) | (with_reducible refine Sl.k_call ?_; (refine s_qt hst (by exact qt_len evX asX inX) ?_))) <;> (try refine nY ?_)) | (with_reducible refine Sl.gate rfl ?_; (go_step)))
              go_ret
              exact ⟨_, rfl, by first | (rw [decide_eq_true (p := (1 : Int) ≤ (m.2.2.2.1.length : Int) ∧ (m.2.2.2.1.length : Int) ≤ 4) (by omega)]; simp; omega) | (rw [decide_eq_false (p := (1 : Int) ≤ (m.2.2.2.1.length : Int) ∧ (m.2.2.2.1.length : Int) ≤ 4) (by omega)]; simp; omega) | (rw [decide_eq_true (p := (1 : Int) ≤ (m.2.2.2.1.length : Int) ∧ (m.2.2.2.1.length : Int) ≤ 4) (by omega)]; rfl) | (rw [decide_eq_false (p := (1 : Int) ≤ (m.2.2.2.1.length : Int) ∧ (m.2.2.2.1.length : Int) ≤ 4) (by omega)]; rfl), St.weaken hS1 hst⟩

end Go.Proofs.YtlimhgamebnfeaaDoor
