/- Package manifest: the laws' sanity function; what comes in. -/
import Derived.Laws.Concat
import Derived.Test.YtlimhgamebnfeaaDoorCards
import Derived.Test.YtlimhgamebnfeaaDoorTie
import Derived.Deep.DeepHandedRow
import Derived.Lib.LaidTab
import Derived.Stop.LaidErr
import Derived.Test.YtlimhgamebnfeaaDoorBf
import Derived.Test.YtlimhgamebnfeaaDoorBe
import Derived.Test.YtlimhgamebnfeaaDoorBd
import Derived.Test.YtlimhgamebnfeaaDoorBb
import Derived.Test.YtlimhgamebnfeaaDoorBa

/- Package manifest: the examples of the laws' sanity function: plain facts. -/
namespace Go.Proofs.YtlimhgamebnfeaaDoor
set_option linter.unusedSimpArgs false
set_option linter.unusedVariables false
open Go.RowKit Go.Sl

def digKm {α : Type} (tag : Int) (parts : List (List UInt8)) (k : List UInt8 → α) : α := hashK (UInt8.ofNat tag.toNat :: joinB parts) fun h => fzBs (h.take 16) k
theorem digKm_eq {α : Type} (tag : Int) (parts : List (List UInt8)) (k : List UInt8 → α) : digKm tag parts k = k (dig tag parts) := by
  rw [digKm, hashK_eq, fzBs_eq]; rfl
def accS : List UInt8 := [97, 99, 99, 101, 112, 116, 59]
def m0 : MF := (2, 1, 0, [], ())
def m1 : MF := (2, 1, 0, [sdgP accS], ())
def u0 : BU := (m0, [], [⟨accS⟩], ())
def k1 : MF := (1, 0, 0, [], ())
theorem i64_l {n : Int} (h : -1000 ≤ n ∧ n ≤ 1000) : I64 n := by unfold I64; omega
theorem ok_m0 : okMF m0 := ⟨i64_l (by decide), i64_l (by decide), i64_l (by decide), ⟨by decide, by simp [m0]⟩, trivial⟩
theorem ok_u0 : okBU u0 := ⟨ok_m0, ⟨by simp [u0], by decide⟩, ⟨by intro x hx; rw [List.mem_singleton.1 hx]; decide, by decide⟩, trivial⟩
set_option maxRecDepth 100000 in
theorem enc_m0 : encMF m0 = [4, 2, 0, 0] := by decide +kernel
theorem dec_m0 : decP mfP zMF [4, 2, 0, 0] = (m0, 0) := by rw [← enc_m0]; exact dec_rt mf_codec ok_m0
theorem dec_short : (decP mfP zMF [4, 2]).2 = 6 := by
  have : ([4, 2] : List UInt8) = (encMF m0).take 2 := by rw [enc_m0]; rfl
  rw [this]
  exact dec_cut mf_codec ok_m0 (by rw [enc_m0]; decide)
theorem dec_lng : (decP mfP zMF [4, 2, 0, 0, 0]).2 = 7 := by
  have : ([4, 2, 0, 0, 0] : List UInt8) = encMF m0 ++ [0] := by rw [enc_m0]; rfl
  rw [this]
  exact dec_more mf_codec ok_m0 (by simp)
theorem dec_u0 : decP buP zBU (encBU u0) = (u0, 0) := dec_rt bu_codec ok_u0
theorem valid_m1 : validM m1 = true := by simp [validM, m1]
theorem valid_m0 : validM m0 = false := by simp [validM, m0]
set_option maxRecDepth 1000000 in
theorem san_m : mdP m1 ≠ mdP m0 := by
  have h : (digKm 6 [accS] fun d => digKm 12 [encI 2 ++ (encI 1 ++ (encI 0 ++ (encD [⟨d⟩] ++ [])))] fun a => digKm 12 [encI 2 ++ (encI 1 ++ (encI 0 ++ (encD [] ++ [])))] fun b => decide (a ≠ b)) = true := by decide +kernel
  simp only [digKm_eq] at h
  intro e
  exact of_decide_eq_true h (congrArg Arr.l e)
set_option maxRecDepth 1000000 in
theorem san_k : kdP zMF ≠ kdP k1 := by
  have h : (digKm 13 [encI 0 ++ (encI 0 ++ (encI 0 ++ (encD [] ++ [])))] fun a => digKm 13 [encI 1 ++ (encI 0 ++ (encI 0 ++ (encD [] ++ [])))] fun b => decide (a ≠ b)) = true := by decide +kernel
  simp only [digKm_eq] at h
  intro e
  exact of_decide_eq_true h (congrArg Arr.l e)
theorem mf_cells {S : Snap} {x1 x2 x3 y1 y2 y3 : Int} {v : Value} {ds : List Dg} {u : Unit} (h : Rep.R S [.int .i64 x1, .int .i64 x2, .int .i64 x3, v] ((y1, y2, y3, ds, u) : MF)) : x1 = y1 ∧ x2 = y2 ∧ x3 = y3 ∧ RSl S v ds := by
  obtain ⟨a, b, e, ⟨rfl, _⟩, h⟩ := (show ∃ a b, [Value.int .i64 x1, .int .i64 x2, .int .i64 x3, v] = a ++ b ∧ Rep.R S a y1 ∧ Rep.R S b ((y2, y3, ds, u) : Int × Int × List Dg × Unit) from ⟨_, _, (List.take_append_drop _ _).symm, h.2.1, h.2.2⟩)
  obtain ⟨e1, rfl⟩ : Value.int .i64 x1 = .int .i64 y1 ∧ [Value.int .i64 x2, .int .i64 x3, v] = b := by simpa using e
  obtain ⟨a, b, e, ⟨rfl, _⟩, h⟩ := (show ∃ a b, [Value.int .i64 x2, .int .i64 x3, v] = a ++ b ∧ Rep.R S a y2 ∧ Rep.R S b ((y3, ds, u) : Int × List Dg × Unit) from ⟨_, _, (List.take_append_drop _ _).symm, h.2.1, h.2.2⟩)
  obtain ⟨e2, rfl⟩ : Value.int .i64 x2 = .int .i64 y2 ∧ [Value.int .i64 x3, v] = b := by simpa using e
  obtain ⟨a, b, e, ⟨rfl, _⟩, h⟩ := (show ∃ a b, [Value.int .i64 x3, v] = a ++ b ∧ Rep.R S a y3 ∧ Rep.R S b ((ds, u) : List Dg × Unit) from ⟨_, _, (List.take_append_drop _ _).symm, h.2.1, h.2.2⟩)
  obtain ⟨e3, rfl⟩ : Value.int .i64 x3 = .int .i64 y3 ∧ [v] = b := by simpa using e
  obtain ⟨a, b, e, ⟨w, rfl, hw⟩, h⟩ := (show ∃ a b, [v] = a ++ b ∧ Rep.R S a ds ∧ Rep.R S b u from ⟨_, _, (List.take_append_drop _ _).symm, h.2.1, h.2.2⟩)
  obtain rfl : v = w := by simp at e; exact e.1
  exact ⟨by simpa using e1, by simpa using e2, by simpa using e3, hw⟩
end Go.Proofs.YtlimhgamebnfeaaDoor

/- Package manifest: the laws' sanity function, walked. -/
--@u32
--@hgp
--@flat
--@dg
--@ex0
namespace Go.Proofs.YtlimhgamebnfeaaDoor
set_option linter.unusedSimpArgs false
set_option linter.unusedVariables false
open Go.RowKit Go.Sl

theorem r_dgm {S : Snap} {d : Dg} (h : d.l.length = 16) : Rep.R S (u8s d.l) d := ⟨h, rl_u8 d.l⟩
theorem qt_addS {P : Program} {S : Snap} {M : List Chunk} {l : List Value} {T U : TypeId} {x y : Operand} {a b : List UInt8} (hx : evF l x = StrV a) (hy : evF l y = StrV b) (hl : a.length ≤ 1048576) (hm : b.length ≤ 1048576) : Qt P l (.binOp .add T x y U) S M (StrV (a ++ b)) := fun dst ty pos af w _ => by
  have h := run_string_add (P := P) (w := w) ⟨a.toArray⟩ ⟨b.toArray⟩ (by show ((a.toArray.size : Nat) : Int) ≤ _; rw [List.size_toArray]; omega) (by show ((b.toArray.size : Nat) : Int) ≤ _; rw [List.size_toArray]; omega)
  have e : (⟨a.toArray⟩ : ByteArray) ++ ⟨b.toArray⟩ = ⟨(a ++ b).toArray⟩ := by
    apply ByteArray.ext; simp
  rw [e] at h
  simp [execOp, hx, hy, eqGuard_at_string, binOp_string_add, h]
set_option maxRecDepth 20000 in
set_option maxHeartbeats 4000000 in
theorem msanity_c {S M} (w : World) (hst : St S M w) (hG : Glob S) : Rets Tryd.prog 9 [] w fun v w' => v = .bool true ∧ St S M w' := by
  unfold Rets
  have r0 : ∀ {S : Snap}, Rep.R S [.int .i64 2, .int .i64 1, .int .i64 0, .slice none 0 0] m0 := r_mf (i64_l (by decide)) (i64_l (by decide)) (i64_l (by decide)) nilSl
  have cE := fun {S : Snap} {M : List Chunk} (w : World) (hst : St S M w) => encode_c w hst _ m0 r0 (by rw [enc_m0]; decide)
  rw [enc_m0] at cE
  have cA := fun {S : Snap} {M : List Chunk} (w : World) (hst : St S M w) => DecodeM_c w hst [4, 2, 0, 0] (by decide)
  rw [dec_m0] at cA
  have cB := fun {S : Snap} {M : List Chunk} (w : World) (hst : St S M w) => DecodeM_c w hst [4, 2] (by decide)
  have cC := fun {S : Snap} {M : List Chunk} (w : World) (hst : St S M w) => DecodeM_c w hst [4, 2, 0, 0, 0] (by decide)
  obtain ⟨⟨zb, eb⟩, hb⟩ : ∃ r, decP mfP zMF [4, 2] = r := ⟨_, rfl⟩
  obtain ⟨⟨zc, ec⟩, hc⟩ : ∃ r, decP mfP zMF [4, 2, 0, 0, 0] = r := ⟨_, rfl⟩
  have hb2 := dec_short
  have hc2 := dec_lng
  rw [hb] at hb2 cB
  rw [hc] at hc2 cC
  simp only at hb2 hc2
  subst hb2
  subst hc2
  clear hb hc
  go_enter Tryd.func9, Tryd.ntmps9
  repeat' ((fail_if_success (with_reducible show Code.wp _ (Code.region 5 _ _) _ _ _)); first | (((with_reducible refine Sl.k_call ?_; (first | (refine s_call (cE _ hst) inX rfl ?_; clear hst; rintro v w ⟨rfl, hst⟩) | (refine s_call (cA _ hst) inX rfl ?_; clear hst; rintro v w ⟨S2, x1, x2, x3, a0, n0, c0, hS2, rfl, hR, hst⟩) | (refine s_call (cB _ hst) inX rfl ?_; clear hst; rintro v w ⟨S3, y1, y2, y3, a1, n1, c1, hS3, rfl, hR3, hst⟩)))) <;> (try refine nY ?_) <;> (try replace hst := nH hst)) | ((fail_if_success (go_big_may)); (go_step)) | (((with_reducible refine Sl.k_load ?_; (refine s_qt hst (by exact qt_loadA evX BoxIn.h inX rfX) ?_))) <;> (try refine nY ?_)) | (with_reducible refine Sl.gate rfl ?_; (go_step)) | ((((first | (with_reducible refine Sl.k_store ?_; (refine s_store hst rfl _ BoxIn.h inX evX rfl lenOk oneOk (by simp) ?_); clear hst; intro w hst) | (refine s_alloc hst inX ?_; clear hst; intro bk w hst)))) <;> (try refine nY ?_) <;> (try replace hst := nH hst)))
  repeat' ((fail_if_success (with_reducible show Code.wp _ (Code.region 6 _ _) _ _ _)); first | (((with_reducible refine Sl.k_call ?_; ((refine s_call (cC _ hst) inX rfl ?_; clear hst; rintro v w ⟨S4, z1, z2, z3, a4, n4, c4, hS4, rfl, hR4, hst⟩)))) <;> (try refine nY ?_) <;> (try replace hst := nH hst)) | ((fail_if_success (go_big_may)); (go_step)) | (with_reducible refine Sl.gate rfl ?_; (go_step)) | ((((first | (with_reducible refine Sl.k_store ?_; (refine s_store hst rfl _ BoxIn.h inX evX rfl lenOk oneOk (by simp) ?_); clear hst; intro w hst) | (refine s_alloc hst inX ?_; clear hst; intro bk w hst)))) <;> (try refine nY ?_) <;> (try replace hst := nH hst)))
  obtain ⟨rfl, rfl, rfl, hv0⟩ := mf_cells hR
  repeat' (first | ((fail_if_success (go_big_may)); (go_step)) | (((with_reducible refine Sl.k_load ?_; (refine s_qt hst (by exact qt_loadA evX BoxIn.h inX rfX) ?_))) <;> (try refine nY ?_)))
  refine s_lit (vs := [StrV accS]) (cs := [StrV accS]) hst inX inX rfl rfl (by simp [Value.cells]) rfl (by omega) (by omega) ?_
  clear hst; intro u6 w hst
  have fz := St.freeze (α := Str) (xs := [⟨accS⟩]) hst (RL.one_mk ⟨rfl, by simp [maxLen, accS]⟩) rfl
  clear hst; obtain ⟨S5, hS5, hst, hu6⟩ := fz
  obtain ⟨ua, un, uc, rfl⟩ := rsl_form hu6
  (try refine nY ?_)
  repeat' ((fail_if_success (with_reducible show Code.wp _ (Code.region 7 _ _) _ _ _)); first | ((fail_if_success (go_big_may)); (go_step)) | (with_reducible refine Sl.gate rfl ?_; (go_step)) | ((((first | (with_reducible refine Sl.k_store ?_; (refine s_store hst rfl _ BoxIn.h inX evX rfl lenOk oneOk (by simp) ?_); clear hst; intro w hst) | (refine s_alloc hst inX ?_; clear hst; intro bk w hst)))) <;> (try refine nY ?_) <;> (try replace hst := nH hst)))
  have ru : Rep.R S5 [.int .i64 2, .int .i64 1, .int .i64 0, .slice none 0 0, .slice none 0 0, .slice ua un uc] u0 := r_bu r0 nilSl hu6
  have cF := fun {M : List Chunk} (w : World) (hst : St S5 M w) => encBU_c w hst _ u0 ru (by decide) (by decide) (by decide +kernel)
  have cG := fun {S : Snap} {M : List Chunk} (w : World) (hst : St S M w) => DecodeB_c w hst (encBU u0) (by decide +kernel)
  rw [dec_u0] at cG
  generalize encBU u0 = eu at *
  repeat' ((fail_if_success (with_reducible show Code.wp _ (Code.region 8 _ _) _ _ _)); first | (((with_reducible refine Sl.k_call ?_; (first | (refine s_call (cF _ hst) inX rfl ?_; clear hst; rintro v w ⟨rfl, hst⟩) | (refine s_call (cG _ hst) inX rfl ?_; clear hst; rintro v w ⟨S6, w1, w2, w3, b0, p0, d0, b1, p1, d1, b2, p2, d2, hS6, rfl, hR6, hst⟩)))) <;> (try refine nY ?_) <;> (try replace hst := nH hst)) | ((fail_if_success (go_big_may)); (go_step)) | (((with_reducible refine Sl.k_load ?_; (refine s_qt hst (by exact qt_loadA evX BoxIn.h inX rfX) ?_))) <;> (try refine nY ?_)) | (with_reducible refine Sl.gate rfl ?_; (go_step)) | ((((first | (with_reducible refine Sl.k_store ?_; (refine s_store hst rfl _ BoxIn.h inX evX rfl lenOk oneOk (by simp) ?_); clear hst; intro w hst) | (refine s_alloc hst inX ?_; clear hst; intro bk w hst)))) <;> (try refine nY ?_) <;> (try replace hst := nH hst)))
  have cD := fun {S : Snap} {M : List Chunk} (w : World) (hst : St S M w) (hG : Glob S) => sdig_c w hst hG accS (by decide)
  have hl6 := sdgP_len accS
  have em1 : m1 = (2, 1, 0, [sdgP accS], ()) := rfl
  have v1 := valid_m1
  have v0 := valid_m0
  have n1 := san_m
  have n2 := san_k
  have lA := mdP_len m1
  have lB := mdP_len m0
  have lC := kdP_len zMF
  have lD := kdP_len k1
  have bA : (encMF m1).length ≤ 1000000 := Nat.le_trans (encMF_bound (k := 1) ⟨i64_l (by decide), i64_l (by decide), i64_l (by decide), by intro x hx; rw [em1] at hx; rw [List.mem_singleton.1 hx]; exact hl6⟩ (by rw [em1]; exact Nat.le_refl _)) (by decide)
  replace hG := ((((hG.mono hS2).mono hS3).mono hS4).mono hS5).mono hS6
  haveI : LenIs (sdgP accS).l 16 := ⟨hl6⟩
  repeat' (first | (((with_reducible refine Sl.k_call ?_; ((refine s_call (cD _ hst hG) inX rfl ?_; clear hst; rintro v w ⟨rfl, hst⟩)))) <;> (try refine nY ?_) <;> (try replace hst := nH hst)) | ((fail_if_success (go_big_may)); (go_step)))
  refine s_lit (vs := [dgVm (sdgP accS)]) (cs := u8s (sdgP accS).l) hst inX inX rfl rfl (by simp [Value.cells, u8s_length, hl6]) rfl (by omega) (by omega) ?_
  clear hst; intro u40 w hst
  have fz := St.freeze (α := Dg) (xs := [sdgP accS]) hst (RL.one_mk ⟨hl6, rl_u8 _⟩) rfl
  clear hst; obtain ⟨S7, hS7, hst, hu40⟩ := fz
  obtain ⟨ga, gn, gc, rfl⟩ := rsl_form hu40
  (try refine nY ?_)
  repeat' ((fail_if_success (with_reducible show Code.wp _ (Code.region 9 _ _) _ _ _)); first | ((fail_if_success (go_big_may)); (go_step)) | (((with_reducible refine Sl.k_field ?_; (refine s_qt hst (qt_field rfl inX) ?_))) <;> (try refine nY ?_)) | (((((with_reducible refine Sl.k_store ?_; (refine s_store hst rfl _ BoxIn.h inX evX rfl lenOk oneOk (by simp) ?_); clear hst; intro w hst)))) <;> (try refine nY ?_) <;> (try replace hst := nH hst)))
  have hv0' := (((hv0.mono hS3).mono hS4).mono hS5).mono (hS6.trans hS7)
  have rA : Rep.R S7 [.int .i64 2, .int .i64 1, .int .i64 0, .slice ga gn gc] m1 := r_mf (i64_l (by decide)) (i64_l (by decide)) (i64_l (by decide)) hu40
  have rB : Rep.R S7 [.int .i64 2, .int .i64 1, .int .i64 0, .slice a0 n0 c0] m0 := r_mf (i64_l (by decide)) (i64_l (by decide)) (i64_l (by decide)) hv0'
  have rZ : Rep.R S7 [.int .i64 0, .int .i64 0, .int .i64 0, .slice none 0 0] zMF := r_zMF
  have rK : Rep.R S7 [.int .i64 1, .int .i64 0, .int .i64 0, .slice none 0 0] k1 := r_mf (i64_l (by decide)) (i64_l (by decide)) (i64_l (by decide)) nilSl
  have hgL : RSl S7 (.slice b2 p2 d2) [(⟨accS⟩ : Str)] := by
    obtain ⟨z, hz, h⟩ := hR6.2.2.2.2.2.1
    obtain rfl : Value.slice b2 p2 d2 = z := (List.cons.inj (show [Value.slice b2 p2 d2] = [z] from hz)).1
    exact h.mono hS7
  replace hG := hG.mono hS7
  have cV1 := fun {S' : Snap} {M : List Chunk} (w : World) (hS : S7.Le S') (hst : St S' M w) => (mvalid_c w hst _ m1 (Rep.mono hS rA) (by decide)).eq v1
  have cV0 := fun {S' : Snap} {M : List Chunk} (w : World) (hS : S7.Le S') (hst : St S' M w) => (mvalid_c w hst _ m0 (Rep.mono hS rB) (by decide)).eq v0
  have cM1 := fun {S' : Snap} {M : List Chunk} (w : World) (hS : S7.Le S') (hst : St S' M w) => mdig_c w hst (hG.mono hS) _ m1 (Rep.mono hS rA) bA
  have cM0 := fun {S' : Snap} {M : List Chunk} (w : World) (hS : S7.Le S') (hst : St S' M w) => mdig_c w hst (hG.mono hS) _ m0 (Rep.mono hS rB) (by decide +kernel)
  have cKZ := fun {S' : Snap} {M : List Chunk} (w : World) (hS : S7.Le S') (hst : St S' M w) => kdig_c w hst (hG.mono hS) _ zMF (Rep.mono hS rZ) (by decide +kernel)
  have cK1 := fun {S' : Snap} {M : List Chunk} (w : World) (hS : S7.Le S') (hst : St S' M w) => kdig_c w hst (hG.mono hS) _ k1 (Rep.mono hS rK) (by decide +kernel)
  clear cA cB cC cE cF cG cD v1 v0 hR hR3 hR4 hR6 hv0 hv0' hu6 hu40 bA ru r0 rA rB rZ rK hl6 em1
  generalize mdP m1 = D1 at *
  generalize mdP m0 = D0 at *
  generalize kdP zMF = D2 at *
  generalize kdP k1 = D3 at *
  obtain ⟨L, hLe⟩ : ∃ L : List Str, L = [⟨accS⟩] := ⟨_, rfl⟩
  rw [← hLe] at hgL
  have hlen : L.length = 1 := by rw [hLe]; rfl
  simp only [List.append_eq, List.cons_append, List.nil_append]
  refine v_begin hst (by kernel_rfl) ?_; clear hst; intro ops; (try refine nY ?_)
  (refine t_qt 0 rfl (by kernel_rfl) rfl rfl (by exact qt_move evX) ?_) <;> (try refine nY ?_)
  (refine t_qt 1 rfl (by kernel_rfl) rfl rfl (qt_eql_str (c := true) rfl rfl inX (by decide)) ?_) <;> (try refine nY ?_)
  (refine t_qt 2 rfl (by kernel_rfl) rfl rfl (by exact qt_move evX) ?_) <;> (try refine nY ?_)
  (refine t_qt 3 rfl (by kernel_rfl) rfl rfl (by exact qt_move evX) ?_) <;> (try refine nY ?_)
  (refine t_qt 4 rfl (by kernel_rfl) rfl rfl (by exact qt_eql rfl rfl) ?_) <;> (try refine nY ?_)
  (refine t_qt 5 rfl (by kernel_rfl) rfl rfl (by exact qt_pick_t rfl evX) ?_) <;> (try refine nY ?_)
  (refine t_qt 6 rfl (by kernel_rfl) rfl rfl (by exact qt_move evX) ?_) <;> (try refine nY ?_)
  (refine t_qt 7 rfl (by kernel_rfl) rfl rfl (by exact qt_field rfl inX) ?_) <;> (try refine nY ?_)
  (refine t_qt 8 rfl (by kernel_rfl) rfl rfl (by exact qt_load rfl _ BoxIn.h inX rfl rfl) ?_) <;> (try refine nY ?_)
  (refine t_qt 9 rfl (by kernel_rfl) rfl rfl (by exact qt_eql rfl rfl) ?_) <;> (try refine nY ?_)
  (refine t_qt 10 rfl (by kernel_rfl) rfl rfl (by exact qt_pick_t rfl evX) ?_) <;> (try refine nY ?_)
  (refine t_qt 11 rfl (by kernel_rfl) rfl rfl (by exact qt_move evX) ?_) <;> (try refine nY ?_)
  (refine t_qt 12 rfl (by kernel_rfl) rfl rfl (by exact qt_field rfl inX) ?_) <;> (try refine nY ?_)
  (refine t_qt 13 rfl (by kernel_rfl) rfl rfl (by exact qt_load rfl _ BoxIn.h inX rfl rfl) ?_) <;> (try refine nY ?_)
  (refine t_qt 14 rfl (by kernel_rfl) rfl rfl (by exact qt_eql rfl rfl) ?_) <;> (try refine nY ?_)
  (refine t_qt 15 rfl (by kernel_rfl) rfl rfl (by exact qt_pick_t rfl evX) ?_) <;> (try refine nY ?_)
  (refine t_qt 16 rfl (by kernel_rfl) rfl rfl (by exact qt_move evX) ?_) <;> (try refine nY ?_)
  (refine t_qt 17 rfl (by kernel_rfl) rfl rfl (by exact qt_move evX) ?_) <;> (try refine nY ?_)
  (refine t_qt 18 rfl (by kernel_rfl) rfl rfl (by exact qt_eql rfl rfl) ?_) <;> (try refine nY ?_)
  (refine t_qt 19 rfl (by kernel_rfl) rfl rfl (by exact qt_pick_t rfl evX) ?_) <;> (try refine nY ?_)
  (refine t_qt 20 rfl (by kernel_rfl) rfl rfl (by exact qt_move evX) ?_) <;> (try refine nY ?_)
  (refine t_qt 21 rfl (by kernel_rfl) rfl rfl (by exact qt_move evX) ?_) <;> (try refine nY ?_)
  (refine t_qt 22 rfl (by kernel_rfl) rfl rfl (by exact qt_eql rfl rfl) ?_) <;> (try refine nY ?_)
  (refine t_qt 23 rfl (by kernel_rfl) rfl rfl (by exact qt_pick_t rfl evX) ?_) <;> (try refine nY ?_)
  (refine t_qt 24 rfl (by kernel_rfl) rfl rfl (by exact qt_move evX) ?_) <;> (try refine nY ?_)
  (refine t_qt 25 rfl (by kernel_rfl) rfl rfl (by exact qt_move evX) ?_) <;> (try refine nY ?_)
  (refine t_qt 26 rfl (by kernel_rfl) rfl rfl (by exact qt_eql rfl rfl) ?_) <;> (try refine nY ?_)
  (refine t_qt 27 rfl (by kernel_rfl) rfl rfl (by exact qt_pick_t rfl evX) ?_) <;> (try refine nY ?_)
  (refine t_qt 28 rfl (by kernel_rfl) rfl rfl (by exact qt_move evX) ?_) <;> (try refine nY ?_)
  (refine t_qt 29 rfl (by kernel_rfl) rfl rfl (by exact qt_field rfl inX) ?_) <;> (try refine nY ?_)
  (refine t_qt 30 rfl (by kernel_rfl) rfl rfl (by exact qt_load rfl _ BoxIn.h inX rfl rfl) ?_) <;> (try refine nY ?_)
  ((refine t_qt 31 rfl (by kernel_rfl) rfl rfl (qt_len evX hgL inX) ?_)) <;> (try refine nY ?_)
  ((refine t_qt 32 rfl (by kernel_rfl) rfl rfl (qt_eql_b (c := true) rfl rfl (by rw [hlen]; rfl)) ?_)) <;> (try refine nY ?_)
  (refine t_qt 33 rfl (by kernel_rfl) rfl rfl (by exact qt_pick_t rfl evX) ?_) <;> (try refine nY ?_)
  (refine t_qt 34 rfl (by kernel_rfl) rfl rfl (by exact qt_move evX) ?_) <;> (try refine nY ?_)
  (refine t_qt 35 rfl (by kernel_rfl) rfl rfl (by exact qt_field rfl inX) ?_) <;> (try refine nY ?_)
  (refine t_qt 36 rfl (by kernel_rfl) rfl rfl (by exact qt_load rfl _ BoxIn.h inX rfl rfl) ?_) <;> (try refine nY ?_)
  (((refine t_ex0 37 rfl (by kernel_rfl) rfl rfl (qt_index evX hgL rfl inX inX omX omX ) ?_; rintro  v37 hp37))) <;> (try refine nY ?_)
  (((refine t_ex0 38 rfl (by kernel_rfl) rfl rfl (qt_ldp_str evX hp37 inX ) ?_; rintro  v38 ⟨rfl, hs38⟩))) <;> (try refine nY ?_)
  ((refine t_qt 39 rfl (by kernel_rfl) rfl rfl (qt_eql_str (b := accS) (c := true) rfl rfl inX (by subst hLe; rfl)) ?_)) <;> (try refine nY ?_)
  (refine t_qt 40 rfl (by kernel_rfl) rfl rfl (by exact qt_pick_t rfl evX) ?_) <;> (try refine nY ?_)
  (refine t_qt 41 rfl (by kernel_rfl) rfl rfl (by exact qt_move evX) ?_) <;> (try refine nY ?_)
  (refine t_qt 42 rfl (by kernel_rfl) rfl rfl (by exact qt_loadA evX BoxIn.h inX rfX) ?_) <;> (try refine nY ?_)
  ((refine t_call 43 rfl (by kernel_rfl) rfl (fun S' M' w hS hM hst => cV1 w hS hst) inX rfl ?_)) <;> (try refine nY ?_)
  (refine t_qt 44 rfl (by kernel_rfl) rfl rfl (by exact qt_pick_t rfl evX) ?_) <;> (try refine nY ?_)
  (refine t_qt 45 rfl (by kernel_rfl) rfl rfl (by exact qt_move evX) ?_) <;> (try refine nY ?_)
  (refine t_qt 46 rfl (by kernel_rfl) rfl rfl (by exact qt_loadA evX BoxIn.h inX rfX) ?_) <;> (try refine nY ?_)
  ((refine t_call 47 rfl (by kernel_rfl) rfl (fun S' M' w hS hM hst => cV0 w hS hst) inX rfl ?_)) <;> (try refine nY ?_)
  (refine t_qt 48 rfl (by kernel_rfl) rfl rfl (by exact qt_not rfl) ?_) <;> (try refine nY ?_)
  (refine t_qt 49 rfl (by kernel_rfl) rfl rfl (by exact qt_pick_t rfl evX) ?_) <;> (try refine nY ?_)
  (refine t_qt 50 rfl (by kernel_rfl) rfl rfl (by exact qt_move evX) ?_) <;> (try refine nY ?_)
  (refine t_qt 51 rfl (by kernel_rfl) rfl rfl (by exact qt_loadA evX BoxIn.h inX rfX) ?_) <;> (try refine nY ?_)
  ((refine t_call 52 rfl (by kernel_rfl) rfl (fun S' M' w hS hM hst => cM1 w hS hst) inX rfl ?_)) <;> (try refine nY ?_)
  (refine t_qt 53 rfl (by kernel_rfl) rfl rfl (by exact qt_loadA evX BoxIn.h inX rfX) ?_) <;> (try refine nY ?_)
  ((refine t_call 54 rfl (by kernel_rfl) rfl (fun S' M' w hS hM hst => cM0 w hS hst) inX rfl ?_)) <;> (try refine nY ?_)
  ((refine t_qt 55 rfl (by kernel_rfl) rfl rfl (qt_neqK_b rfl rfl (r_dgm lA) (r_dgm lB) inX inX inferInstance (decide_eq_false n1)) ?_)) <;> (try refine nY ?_)
  (refine t_qt 56 rfl (by kernel_rfl) rfl rfl (by exact qt_pick_t rfl evX) ?_) <;> (try refine nY ?_)
  (refine t_qt 57 rfl (by kernel_rfl) rfl rfl (by exact qt_move evX) ?_) <;> (try refine nY ?_)
  ((refine t_qt 58 rfl (by kernel_rfl) rfl rfl (qt_buildS (cs := [.int .i64 0, .int .i64 0, .int .i64 0, .slice none 0 0]) inX inX (by kernel_rfl)) ?_)) <;> (try refine nY ?_)
  ((refine t_call 59 rfl (by kernel_rfl) rfl (fun S' M' w hS hM hst => cKZ w hS hst) inX rfl ?_)) <;> (try refine nY ?_)
  ((refine t_qt 60 rfl (by kernel_rfl) rfl rfl (qt_buildS (cs := [.int .i64 1, .int .i64 0, .int .i64 0, .slice none 0 0]) inX inX (by kernel_rfl)) ?_)) <;> (try refine nY ?_)
  ((refine t_call 61 rfl (by kernel_rfl) rfl (fun S' M' w hS hM hst => cK1 w hS hst) inX rfl ?_)) <;> (try refine nY ?_)
  ((refine t_qt 62 rfl (by kernel_rfl) rfl rfl (qt_neqK_b rfl rfl (r_dgm lC) (r_dgm lD) inX inX inferInstance (decide_eq_false n2)) ?_)) <;> (try refine nY ?_)
  (refine t_qt 63 rfl (by kernel_rfl) rfl rfl (by exact qt_pick_t rfl evX) ?_) <;> (try refine nY ?_)
  (refine t_qt 64 rfl (by kernel_rfl) rfl rfl (by exact qt_assign evX) ?_) <;> (try refine nY ?_)
  refine v_done (by kernel_rfl) ?_; clear ops; intro w hst
  repeat' (((fail_if_success (go_big_may)); (go_step)))
  go_ret
  exact ⟨_, rfl, rfl, (St.weaken (hS2.trans (hS3.trans (hS4.trans (hS5.trans (hS6.trans hS7))))) hst).drop.drop.drop.drop.drop.drop⟩
end Go.Proofs.YtlimhgamebnfeaaDoor

/- Package manifest: how what comes in is read; package sha's tables. -/
namespace Go.Proofs.YtlimhgamebnfeaaDoor
set_option linter.unusedSimpArgs false
set_option linter.unusedVariables false
open Go.RowKit Go.Sl Go.ChangeShapes Go.WideShapes Go.ChangeAt

instance opI : Opens Tryd.prog 3 Int := opens_int (by kernel_rfl)
instance opB : Opens Tryd.prog 5 UInt8 := opens_u8 (by kernel_rfl)
instance opBs : Opens Tryd.prog 74 (List UInt8) := opens_list (sl74) (ty5) (by decide)
instance opD : Opens Tryd.prog 38 Dg := opens_array (arr38) (by kernel_rfl) (by kernel_rfl)
instance opDs : Opens Tryd.prog 22 (List Dg) := opens_list (sl22) (ty38) (by decide)

theorem own : ownKnob Tryd.prog.godebug = none := by kernel_rfl

theorem sum_ge {α : Type} [Siz α] {xs : List α} (h : ∀ x ∈ xs, 1 ≤ Siz.siz x) : xs.length ≤ (xs.map Siz.siz).sum := by
  induction xs with
  | nil => simp
  | cons a l ih =>
    have := ih fun x hx => h x (.tail _ hx)
    have := h a (.head _)
    simp only [List.length_cons, List.map_cons, List.sum_cons]; omega

set_option maxRecDepth 20000 in
theorem open_l {α : Type} [Rep α] [Siz α] {T E : TypeId} [Opens Tryd.prog T (List α)] (hT : Tryd.prog.underlying T = some (.slice E)) {H : Type} {enc : TypeId × Value → H} {W : World} {base : Nat} {v : Value} {d : DataW H} {p : List MemPlace} (hv : Value.okWide Tryd.prog W .any base T v) (h : DataW.Trod enc Tryd.prog W 0 (fun _ => true) true T v d p) :
    ∃ xs : List α, RSl (snapOf W) v xs ∧ (xs.map Siz.siz).sum + 1 ≤ Rows.uptoBulk d := by
  obtain ⟨a, n, c, rfl⟩ := okWide_slice hT hv
  obtain ⟨y, ⟨v', e, hy⟩, hs⟩ := open_arg (α := List α) h
  obtain rfl : v' = .slice a n c := by simpa [Value.cells] using e.symm
  exact ⟨y, hy, hs⟩

set_option maxRecDepth 20000 in
theorem open_ds {H : Type} {enc : TypeId × Value → H} {W : World} {base : Nat} {v : Value} {d : DataW H} {p : List MemPlace} (hv : Value.okWide Tryd.prog W .any base 22 v) (h : DataW.Trod enc Tryd.prog W 0 (fun _ => true) true 22 v d p) (hk : Rows.uptoBulk d ≤ 1048576) :
    ∃ xs : List Dg, RSl (snapOf W) v xs ∧ xs.length ≤ 1048576 := by
  obtain ⟨xs, hx, hs⟩ := open_l (α := Dg) Tryd.underlying22 hv h
  have := sum_ge (xs := xs) fun x hx2 => by
    have h16 := hx.dgs x hx2
    have h1 : ∀ l : List UInt8, (l.map Siz.siz).sum = l.length := fun l => by
      induction l with
      | nil => rfl
      | cons a l ih => simp only [List.map_cons, List.sum_cons, List.length_cons, ih]; show 1 + _ = _; omega
    show 1 ≤ (x.l.map Siz.siz).sum
    rw [h1]; omega
  exact ⟨xs, hx, by omega⟩
set_option maxRecDepth 20000 in
theorem open_bs {H : Type} {enc : TypeId × Value → H} {W : World} {base : Nat} {v : Value} {d : DataW H} {p : List MemPlace} (hv : Value.okWide Tryd.prog W .any base 74 v) (h : DataW.Trod enc Tryd.prog W 0 (fun _ => true) true 74 v d p) (hk : Rows.uptoBulk d ≤ 1048576) :
    ∃ xs : List UInt8, RSl (snapOf W) v xs ∧ xs.length ≤ 1048576 := by
  obtain ⟨xs, hx, hs⟩ := open_l (α := UInt8) Tryd.underlying74 hv h
  have := sum_ge (xs := xs) fun x _ => Nat.le_refl _
  exact ⟨xs, hx, by omega⟩
instance opStr : Opens Tryd.prog 9 Str := opens_str (by kernel_rfl)
instance opStrs : Opens Tryd.prog 26 (List Str) := opens_list (sl26) (ty9) (by decide)
set_option maxRecDepth 20000 in
theorem open_s {H : Type} {enc : TypeId × Value → H} {W : World} {base : Nat} {v : Value} {d : DataW H} {p : List MemPlace} (hv : Value.okWide Tryd.prog W .any base 9 v) (h : DataW.Trod enc Tryd.prog W 0 (fun _ => true) true 9 v d p) (hk : Rows.uptoBulk d ≤ 1048576) :
    ∃ s : List UInt8, v = .string ⟨s.toArray⟩ ∧ s.length ≤ 1048576 := by
  obtain ⟨s, rfl⟩ := okWide_string Tryd.underlying9 hv
  obtain ⟨y, ⟨e, _⟩, hs⟩ := open_arg (α := Str) h
  have e' : s = ⟨y.b.toArray⟩ := by simpa [Value.cells] using e
  subst e'
  exact ⟨y.b, rfl, by simp only [Siz.siz] at hs; omega⟩
theorem tabC : ∀ ws : List UInt32, (List.map (fun z => Value.int .u32 z) (ws.map fun x => (x.toNat : Int))) = cF u32C ws
  | [] => rfl
  | a :: l => by
    show _ :: _ = _ :: cF u32C l
    rw [← tabC l]
/-- A table of words, as it lies. -/
theorem pt_of_tab {W : World} {name : String} {g : Nat} {n : Nat} {ws : List UInt32} (hg : Tryd.prog.globalNamed name = some g) (hn : ws.length = n)
    (h : Lib.TabIs Tryd.prog W name .u32 (ws.map fun x => (x.toNat : Int))) : Pt (snapOf W) (.pointer (some ⟨g, 0, none⟩)) (⟨ws⟩ : Arr UInt32 n) := by
  unfold Lib.TabIs World.var? at h
  rw [hg] at h
  simp only [Option.bind_some] at h
  split at h
  · rename_i cs T fz hc
    obtain rfl := Option.some.inj h
    refine ⟨g, 0, _, T, fz, rfl, hc, ?_⟩
    have hz : Rep.z (Arr UInt32 n) = n := by show n * 1 = n; omega
    rw [hz, List.drop_zero, List.take_of_length_le (by simp only [List.length_map]; omega)]
    rw [tabC]
    refine ⟨hn, by rw [cF_u32_len]; show ws.length = ws.length * 1; omega, fun j x hx => ?_⟩
    have hj : j < ws.length := (List.getElem?_eq_some_iff.1 hx).1
    have hz2 : Rep.z UInt32 = 1 := rfl
    rw [hz2, Nat.mul_one, cF_u32_get ws j hj, List.getD_eq_getElem?_getD, hx]
    rfl
  · cases h

theorem start_tab : Rows.laid_bootchain_sha_start (H := Unit) = Lib.tabData .u32 (s8Start.l.map fun x => (x.toNat : Int)) := by rfl
theorem cons_tab : Rows.laid_bootchain_sha_constants (H := Unit) = Lib.tabData .u32 (kList.map fun x => (x.toNat : Int)) := by rfl

theorem glob_of {W : World} (h : laidMetH Tryd.prog [("bootchain/sha.constants", Rows.laid_bootchain_sha_constants), ("bootchain/sha.start", Rows.laid_bootchain_sha_start)] W) : Glob (snapOf W) := by
  rw [start_tab, cons_tab] at h
  have h1 : laidMet Tryd.prog [("bootchain/sha.constants", Lib.tabData .u32 (kList.map fun x => (x.toNat : Int))), ("bootchain/sha.start", Lib.tabData .u32 (s8Start.l.map fun x => (x.toNat : Int)))] W := h
  exact ⟨pt_of_tab (by kernel_rfl) rfl (Lib.tabIs_of_head (g := 0) (t := 137) (e := 135) (n := 8) (by kernel_rfl) (by kernel_rfl) (by kernel_rfl) (by kernel_rfl) (by kernel_rfl) (by kernel_rfl) (Go.laidMet.tail h1)),
    pt_of_tab (by kernel_rfl) rfl (Lib.tabIs_of_head (g := 1) (t := 151) (e := 135) (n := 64) (by kernel_rfl) (by kernel_rfl) (by kernel_rfl) (by kernel_rfl) (by kernel_rfl) (by kernel_rfl) h1)⟩

/-- A world for the witness: the settled one, the two tables laid. -/
def layCells (cs : List Value) : Obj → Obj
  | .cells _ t frozen => .cells cs.toArray t frozen
  | o => o
noncomputable def laidWorld (os : Os) (is : Array Value) : World :=
  { World.holding Tryd.prog os ⟨#[], is, []⟩ with heap := ((World.holding Tryd.prog os ⟨#[], is, []⟩).heap.modify 0 (layCells (cF u32C s8Start.l))).modify 1 (layCells (cF u32C kList)) }
end Go.Proofs.YtlimhgamebnfeaaDoor
