/- The reference's comparisons; the law's sanity function; what comes in; the statement DirectoryMerge walked. -/
import Derived.Test.YtjapdhaimbalkaaDoorCards
import Derived.Test.YtjapdhaimbalkaaDoorTie
import Derived.Deep.DeepHandedRow
import Derived.Lib.LaidTab
import Derived.Stop.LaidErr
import Derived.Test.YtjapdhaimbalkaaDoorBb
import Derived.Test.YtjapdhaimbalkaaDoorBf
import Derived.Test.YtjapdhaimbalkaaDoorBe
import Derived.Test.YtjapdhaimbalkaaDoorBg
import Derived.Test.YtjapdhaimbalkaaDoorBd
import Derived.Test.YtjapdhaimbalkaaDoorBa

/- Package directory: the reference's comparisons of manifests and facts, walked. -/
--@hgp
--@flat
--@dg
--@ex0
namespace Go.Proofs.YtjapdhaimbalkaaDoor
set_option linter.unusedSimpArgs false
set_option linter.unusedVariables false
open Go.RowKit Go.Sl Go.Srt

theorem r_dgT {S : Snap} {d : Dg} (h : d.l.length = 16) : Rep.R S (u8s d.l) d := by exact ⟨h, rl_u8 d.l⟩
instance decMF : DecidableEq MF := instDecidableEqProd (α := Int) (β := Int × Int × List Dg × Unit)
instance decFa : DecidableEq Fa := instDecidableEqProd (α := Int) (β := Str × MF × Dg × Unit)

set_option maxRecDepth 8000 in
set_option maxHeartbeats 1000000 in
theorem rmans_c {S M} (w : World) (hst : St S M w) (ca cb : List Value) (a b : MF) (ha : Rep.R S ca a) (hb : Rep.R S cb b) (hm1 : a.2.2.2.1.length ≤ 1048576) (hm2 : b.2.2.2.1.length ≤ 1048576) :
    Rets Tryd.prog 32 [.agg ca.toArray, .agg cb.toArray] w fun v w' => v = .bool (decide (a = b)) ∧ St S M w' := by
  unfold Rets
  obtain ⟨a1, a2, a3, a4, ⟨⟩⟩ := a
  obtain ⟨b1, b2, b3, b4, ⟨⟩⟩ := b
  simp only at hm1 hm2
  have e : decide (((a1, a2, a3, a4, ()) : MF) = (b1, b2, b3, b4, ())) = (decide (a1 = b1) && (decide (a2 = b2) && (decide (a3 = b3) && decide (a4 = b4)))) := by rw [Bool.eq_iff_iff]; simp
  have cA := fun {S : Snap} {M : List Chunk} (w : World) (hst : St S M w) (va vb : Value) (ha : RSl S va a4) (hb : RSl S vb b4) => same_c w hst va vb a4 b4 ha hb (by omega) (by omega)
  generalize decide (a4 = b4) = z at *
  have E1 : (a1 == b1) = decide (a1 = b1) := by rw [Bool.eq_iff_iff]; simp
  have E2 : (a2 == b2) = decide (a2 = b2) := by rw [Bool.eq_iff_iff]; simp
  have E3 : (a3 == b3) = decide (a3 = b3) := by rw [Bool.eq_iff_iff]; simp
  generalize decide (a1 = b1) = y1 at *
  generalize decide (a2 = b2) = y2 at *
  generalize decide (a3 = b3) = y3 at *
  cases y1 <;> (try cases y2) <;> (try cases y3)
  all_goals
    go_enter Tryd.func32, Tryd.ntmps32
    repeat' ((fail_if_success (with_reducible show Code.wp _ (Code.region 1 _ _) _ _ _)); first | ((fail_if_success (go_big_may)); (go_step)) | (((((refine s_box hst evX rfl ?_; clear hst; intro bx w hst)))) <;> (try refine nX ?_) <;> (try replace hst := nH hst)))
    obtain ⟨S1, hS1, hstA, hpb⟩ := pt_box (α := MF) hst hb (Rep.len hb)
    clear hst
    obtain ⟨S2, hS2, hst, hpa⟩ := pt_box (α := MF) hstA (Rep.mono hS1 ha) (Rep.len ha)
    clear hstA
    replace hpb := hpb.mono hS2
    repeat' (first | go_skip | ((first | (with_reducible (refine Sl.k_field ?_; (first | refine s_ex hst (qt_fieldp evX hpa inX inX rfl) ?_ | refine s_ex hst (qt_fieldp evX hpb inX inX rfl) ?_); rintro vf hpf)) | (with_reducible refine Sl.k_bin ?_; (first | refine s_qt hst (qt_eql_b rfl rfl E1) ?_ | refine s_qt hst (qt_eql_b rfl rfl E2) ?_ | refine s_qt hst (qt_eql_b rfl rfl E3) ?_)) | (with_reducible refine Sl.k_guard ?_; ((refine Sl.guard_yes rfl ?_)))) <;> (try refine nX ?_)) | (((with_reducible refine Sl.k_call ?_; ((refine s_call (cA _ hst _ _ (by with_unfolding_all assumption) (by with_unfolding_all assumption)) inX rfl ?_; clear hst; rintro v w ⟨rfl, hst⟩)))) <;> (try refine nX ?_) <;> (try replace hst := nH hst)) | ((fail_if_success (go_big_may)); (go_step)) | (((with_reducible refine Sl.k_load ?_; (first | (refine s_ex hst (qt_ldp_int evX asX inX) ?_; rintro v ⟨rfl, hI⟩) | (refine s_ex hst (qt_ldp_list evX asX inX) ?_; rintro v ⟨hvl, hv1⟩)))) <;> (try refine nX ?_)))
    go_ret
    exact ⟨_, rfl, by rw [e]; rfl, St.weaken (hS1.trans hS2) hst⟩

set_option maxRecDepth 8000 in
set_option maxHeartbeats 1000000 in
theorem rfact_c {S M} (w : World) (hst : St S M w) (ca cb : List Value) (a b : Fa) (ha : Rep.R S ca a) (hb : Rep.R S cb b) (oa : FaOk a) (ob : FaOk b) :
    Rets Tryd.prog 38 [.agg ca.toArray, .agg cb.toArray] w fun v w' => v = .bool (decide (a = b)) ∧ St S M w' := by
  unfold Rets
  have da := oa.d
  have db := ob.d
  have la := oa.s
  have lb := ob.s
  obtain ⟨a1, a2, a3, a4, ⟨⟩⟩ := a
  obtain ⟨b1, b2, b3, b4, ⟨⟩⟩ := b
  simp only at da db la lb
  have e : decide (((a1, a2, a3, a4, ()) : Fa) = (b1, b2, b3, b4, ())) = (decide (a1 = b1) && (decide (a2.b = b2.b) && (decide (a4 = b4) && decide (a3 = b3)))) := by
    rw [Bool.eq_iff_iff]
    have : a2 = b2 ↔ a2.b = b2.b := by cases a2; cases b2; simp
    simp only [decide_eq_true_eq, Bool.and_eq_true, Prod.mk.injEq, and_true, this]
    constructor
    · rintro ⟨h1, h2, h3, h4⟩; exact ⟨h1, h2, h4, h3⟩
    · rintro ⟨h1, h2, h3, h4⟩; exact ⟨h1, h2, h4, h3⟩
  have cA := fun {S : Snap} {M : List Chunk} (w : World) (hst : St S M w) (ca cb : List Value) (ha : Rep.R S ca a3) (hb : Rep.R S cb b3) => rmans_c w hst ca cb a3 b3 ha hb (by omega) (by omega)
  generalize decide (a3 = b3) = z at *
  have E1 : (a1 == b1) = decide (a1 = b1) := by rw [Bool.eq_iff_iff]; simp
  obtain ⟨y1, hy1⟩ : ∃ y, decide (a1 = b1) = y := ⟨_, rfl⟩
  obtain ⟨y2, E2⟩ : ∃ y, decide (a2.b = b2.b) = y := ⟨_, rfl⟩
  obtain ⟨y3, E3⟩ : ∃ y, decide (a4 = b4) = y := ⟨_, rfl⟩
  rw [hy1, E2, E3] at e
  rw [hy1] at E1
  clear hy1
  cases y1 <;> (try cases y2) <;> (try cases y3)
  all_goals
    go_enter Tryd.func38, Tryd.ntmps38
    repeat' ((fail_if_success (with_reducible show Code.wp _ (Code.region 1 _ _) _ _ _)); first | ((fail_if_success (go_big_may)); (go_step)) | (((((refine s_box hst evX rfl ?_; clear hst; intro bx w hst)))) <;> (try refine nX ?_) <;> (try replace hst := nH hst)))
    obtain ⟨S1, hS1, hstA, hpb⟩ := pt_box (α := Fa) hst hb (Rep.len hb)
    clear hst
    obtain ⟨S2, hS2, hst, hpa⟩ := pt_box (α := Fa) hstA (Rep.mono hS1 ha) (Rep.len ha)
    clear hstA
    replace hpb := hpb.mono hS2
    repeat' (first | go_skip | ((first | (with_reducible (refine Sl.k_field ?_; (first | refine s_ex hst (qt_fieldp evX hpa inX inX rfl) ?_ | refine s_ex hst (qt_fieldp evX hpb inX inX rfl) ?_); rintro vf hpf)) | (with_reducible (refine Sl.k_load ?_; (first | refine s_qt hst (qt_ldp_flat (y := a4) evX hpf inX inX rfl) ?_ | refine s_qt hst (qt_ldp_flat (y := b4) evX hpf inX inX rfl) ?_))) | (with_reducible (refine Sl.k_load ?_; (first | refine s_ex hst (qt_ldp (y := a3) evX hpf inX) ?_ | refine s_ex hst (qt_ldp (y := b3) evX hpf inX) ?_); rintro v7 ⟨cm, rfl, hcm⟩)) | (with_reducible refine Sl.k_bin ?_; (first | refine s_qt hst (qt_eql_b rfl rfl E1) ?_ | refine s_qt hst (qt_eql_str rfl rfl inX E2) ?_ | refine s_qt hst (qt_eqlK_b rfl rfl (r_dgT da) (r_dgT db) inX inX inferInstance E3) ?_)) | (with_reducible refine Sl.k_guard ?_; ((refine Sl.guard_yes rfl ?_)))) <;> (try refine nX ?_)) | (((with_reducible refine Sl.k_call ?_; ((refine s_call (cA _ hst _ _ (by with_unfolding_all assumption) (by with_unfolding_all assumption)) inX rfl ?_; clear hst; rintro v w ⟨rfl, hst⟩)))) <;> (try refine nX ?_) <;> (try replace hst := nH hst)) | ((fail_if_success (go_big_may)); (go_step)) | (((with_reducible refine Sl.k_load ?_; (first | (refine s_ex hst (qt_ldp_int evX asX inX) ?_; rintro v ⟨rfl, hI⟩) | (refine s_ex hst (qt_ldp_str evX asX inX) ?_; rintro v ⟨rfl, hs⟩)))) <;> (try refine nX ?_)))
    refine bodyPost_ret (results_tmp rfl _ _ _) rfl ?_
    exact ⟨_, rfl, by rw [e]; rfl, St.weaken (hS1.trans hS2) hst⟩

end Go.Proofs.YtjapdhaimbalkaaDoor

/- Package directory: the reference's comparisons of directories, walked. -/
--@hgp
--@flat
--@dg
--@ex0
namespace Go.Proofs.YtjapdhaimbalkaaDoor
set_option linter.unusedSimpArgs false
set_option linter.unusedVariables false
open Go.RowKit Go.Sl Go.Srt

theorem dir_of {S : Snap} {cs : List Value} {a : List Fa} (h : Rep.R S cs ((a, ()) : Dir)) : ∃ u, cs = [u] ∧ RSl S u a := by
  obtain ⟨hl, ⟨u, e, hu⟩, h2⟩ := h
  refine ⟨u, ?_, hu⟩
  have e1 : cs.take 1 = [u] := e
  have e2 : cs.drop 1 = [] := h2
  rw [← List.take_append_drop 1 cs, e1, e2]; rfl
theorem dir_mk {S : Snap} {u : Value} {a : List Fa} (h : RSl S u a) : Rep.R S [u] ((a, ()) : Dir) := prod_mk (show Rep.R S [u] a from ⟨u, rfl, h⟩) unit_mk

set_option maxRecDepth 8000 in
set_option maxHeartbeats 1000000 in
theorem rsame_c {S M} (w : World) (hst : St S M w) (u1 u2 : Value) (a b : List Fa) (h1 : RSl S u1 a) (h2 : RSl S u2 b) (oa : ∀ f ∈ a, FaOk f) (ob : ∀ f ∈ b, FaOk f) (ha : a.length ≤ 1000000) (hb : b.length ≤ 1000000) :
    Rets Tryd.prog 12 [.agg [u1].toArray, .agg [u2].toArray] w fun v w' => v = .bool (decide (a = b)) ∧ St S M w' := by
  unfold Rets
  have k1 := h1.oneCell
  have k2 := h2.oneCell
  by_cases hl : a.length = b.length
  · have hd : (((a.length : Int)) != (b.length : Int)) = false := by simp [hl]
    have Hl := Lib.hid hl; clear hl
    go_enter Tryd.func12, Tryd.ntmps12
    repeat' ((fail_if_success (with_reducible show Code.wp _ (Code.region 1 _ _) _ _ _)); first | ((fail_if_success (go_big_may)); (go_step)) | (((((refine s_box hst evX rfl ?_; clear hst; intro bx w hst)))) <;> (try refine nX ?_) <;> (try replace hst := nH hst)))
    obtain ⟨S1, hS1, hstA, hpb⟩ := pt_box (α := Dir) hst (dir_mk h2) rfl
    clear hst
    obtain ⟨S2, hS2, hst, hpa⟩ := pt_box (α := Dir) hstA (dir_mk (h1.mono hS1)) rfl
    clear hstA
    replace hpb := hpb.mono hS2
    replace hS2 := hS1.trans hS2
    clear hS1
    replace h1 := h1.mono hS2
    replace h2 := h2.mono hS2
    clear h1 h2
    repeat' (first | ((first | (with_reducible (refine Sl.k_field ?_; (first | refine s_ex hst (qt_fieldp evX hpa inX inX rfl) ?_ | refine s_ex hst (qt_fieldp evX hpb inX inX rfl) ?_); rintro vf hpf)) | (with_reducible (refine Sl.k_load ?_; refine s_ex hst (qt_ldp_list evX hpf inX) ?_; rintro vl ⟨hvl, hvl1⟩; (first | replace hvl : RSl S2 vl a := hvl | replace hvl : RSl S2 vl b := hvl)))) <;> (try refine nX ?_)) | ((fail_if_success (go_big_may)); (go_step)) | (((with_reducible refine Sl.k_call ?_; (refine s_qt hst (by exact qt_len evX asX inX) ?_))) <;> (try refine nX ?_)) | (with_reducible refine Sl.gate rfl ?_; (go_step)))
    go_loopw [5] (fun v wr => ∃ k : Nat, k ≤ a.length ∧ v = .int .i64 k ∧ Hid (a.take k = b.take k) ∧ St S2 M wr) (fun v _ => a.length - (intOf v).toNat)
    case atStart => exact ⟨0, Nat.zero_le _, rfl, Lib.hid rfl, hst⟩
    case round =>
      clear hst
      obtain ⟨k, hk, rfl, ht, hst⟩ := hrel
      by_cases hlt : k < a.length
      · have hlb : k < b.length := Hl.out ▸ hlt
        have oak := oa _ (List.getElem_mem hlt)
        have obk := ob _ (List.getElem_mem hlb)
        obtain ⟨z, hz⟩ : ∃ z, decide (a[k] = b[k]) = z := ⟨_, rfl⟩
        have cF0 := fun {S : Snap} {M : List Chunk} (w : World) (hst : St S M w) (ca cb : List Value) (ha : Rep.R S ca a[k]) (hb : Rep.R S cb b[k]) => (rfact_c w hst ca cb a[k] b[k] ha hb oak obk).eq hz
        have hz := Lib.hid hz
        repeat' (first | ((first | (with_reducible (refine Sl.k_field ?_; (refine s_ex hst (qt_fieldp evX hpa inX inX rfl) ?_); rintro vf hpf)) | (with_reducible (refine Sl.k_load ?_; refine s_ex hst (qt_ldp_list evX hpf inX) ?_; rintro vl ⟨hvl, hvl1⟩; (replace hvl : RSl S2 vl a := hvl)))) <;> (try refine nX ?_)) | ((fail_if_success (go_big_may)); (go_step)) | (((with_reducible refine Sl.k_call ?_; (refine s_qt hst (by exact qt_len evX asX inX) ?_))) <;> (try refine nX ?_)) | (with_reducible refine Sl.gate rfl ?_; (go_step)))
        refine v_begin hst (by kernel_rfl) ?_; clear hst; intro ops; (try refine nX ?_)
        ((refine t_ex0 0 rfl (by kernel_rfl) rfl rfl (qt_fieldp evX hpa inX inX rfl ) ?_; rintro  v0 hp0)) <;> (try refine nX ?_)
        ((refine t_ex0 1 rfl (by kernel_rfl) rfl rfl (qt_ldp_list evX hp0 inX ) ?_; rintro  v1 ⟨hv1, hv11⟩; replace hv1 : RSl S2 v1 a := hv1)) <;> (try refine nX ?_)
        (refine t_qt 2 rfl (by kernel_rfl) rfl rfl (by exact qt_move evX) ?_) <;> (try refine nX ?_)
        ((refine t_ex0 3 rfl (by kernel_rfl) rfl rfl (qt_index evX hv1 rfl inX inX omX omX ) ?_; rintro  v3 hp3; simp only [Int.toNat_natCast] at hp3)) <;> (try refine nX ?_)
        ((refine t_ex0 4 rfl (by kernel_rfl) rfl rfl (qt_ldp evX hp3 inX ) ?_; rintro  v4 ⟨c4, rfl, hc4⟩)) <;> (try refine nX ?_)
        ((refine t_ex0 5 rfl (by kernel_rfl) rfl rfl (qt_fieldp evX hpb inX inX rfl ) ?_; rintro  v5 hp5)) <;> (try refine nX ?_)
        ((refine t_ex0 6 rfl (by kernel_rfl) rfl rfl (qt_ldp_list evX hp5 inX ) ?_; rintro  v6 ⟨hv6, hv61⟩; replace hv6 : RSl S2 v6 b := hv6)) <;> (try refine nX ?_)
        (refine t_qt 7 rfl (by kernel_rfl) rfl rfl (by exact qt_move evX) ?_) <;> (try refine nX ?_)
        ((refine t_ex0 8 rfl (by kernel_rfl) rfl rfl (qt_index evX hv6 rfl inX inX omX omX ) ?_; rintro  v8 hp8; simp only [Int.toNat_natCast] at hp8)) <;> (try refine nX ?_)
        ((refine t_ex0 9 rfl (by kernel_rfl) rfl rfl (qt_ldp evX hp8 inX ) ?_; rintro  v9 ⟨c9, rfl, hc9⟩)) <;> (try refine nX ?_)
        (refine t_call 10 rfl (by kernel_rfl) rfl (fun S' M' w hS hM hst => cF0 w hst c4 c9 (Rep.mono hS hc4) (Rep.mono hS hc9)) inX rfl ?_) <;> (try refine nX ?_)
        (refine t_qt 11 rfl (by kernel_rfl) rfl rfl (by exact qt_assign evX) ?_) <;> (try refine nX ?_)
        refine v_done (by kernel_rfl) ?_; clear ops; intro w hst
        cases z with
        | true =>
          repeat' (first | ((fail_if_success (go_big_may)); (go_step)) | (with_reducible refine Sl.gate rfl ?_; (go_step)))
          go_roundw
          case rel => exact ⟨k + 1, by omega, by go_num, Lib.hid ((take_succ_eq ht.out hlt hlb).2 (of_decide_eq_true hz.out)), hst⟩
          case measure => simp [intOf]; omega
        | false =>
          repeat' (first | ((fail_if_success (go_big_may)); (go_step)) | (with_reducible refine Sl.gate rfl ?_; (go_step)))
          go_ret
          exact ⟨_, rfl, bool_no (by rintro rfl; exact of_decide_eq_false hz.out rfl), St.weaken hS2 hst⟩
      · have he : Hid (a = b) := Lib.hid (by
          have := ht.out
          rwa [List.take_of_length_le (by omega), List.take_of_length_le (by have := Hl.out; omega)] at this)
        repeat' (first | ((first | (with_reducible (refine Sl.k_field ?_; (refine s_ex hst (qt_fieldp evX hpa inX inX rfl) ?_); rintro vf hpf)) | (with_reducible (refine Sl.k_load ?_; refine s_ex hst (qt_ldp_list evX hpf inX) ?_; rintro vl ⟨hvl, hvl1⟩; (replace hvl : RSl S2 vl a := hvl)))) <;> (try refine nX ?_)) | ((fail_if_success (go_big_may)); (go_step)) | (((with_reducible refine Sl.k_call ?_; (refine s_qt hst (by exact qt_len evX asX inX) ?_))) <;> (try refine nX ?_)) | (with_reducible refine Sl.gate rfl ?_; (go_step)))
        go_ret
        exact ⟨_, rfl, bool_yes he.out, St.weaken hS2 hst⟩
  · have hd : (((a.length : Int)) != (b.length : Int)) = true := by simp; omega
    have Hl := Lib.hid hl; clear hl
    go_enter Tryd.func12, Tryd.ntmps12
    repeat' (first | ((fail_if_success (go_big_may)); (go_step)) | ((first | (with_reducible refine Sl.k_load ?_; (refine s_qt hst (by exact qt_load rfl _ BoxIn.h inX rfl rfl) ?_)) | (with_reducible refine Sl.k_field ?_; (refine s_qt hst (qt_field rfl inX) ?_)) | (with_reducible refine Sl.k_call ?_; (refine s_qt hst (by exact qt_len evX asX inX) ?_))) <;> (try refine nX ?_)) | (with_reducible refine Sl.gate rfl ?_; (go_step)) | (((((refine s_box hst evX rfl ?_; clear hst; intro bx w hst)))) <;> (try refine nX ?_) <;> (try replace hst := nH hst)))
    go_ret
    exact ⟨_, rfl, bool_no (by rintro rfl; exact Hl.out rfl), hst.drop.drop⟩

def hasD (a : List Fa) (f : Fa) : Bool := decide (f ∈ a)
set_option maxRecDepth 8000 in
set_option maxHeartbeats 1000000 in
theorem rhas_c {S M} (w : World) (hst : St S M w) (u1 : Value) (a : List Fa) (h1 : RSl S u1 a) (oa : ∀ f ∈ a, FaOk f) (ha : a.length ≤ 1000000) (cs : List Value) (f : Fa) (hR : Rep.R S cs f) (ok : FaOk f) :
    Rets Tryd.prog 23 [.agg [u1].toArray, .agg cs.toArray] w fun v w' => v = .bool (hasD a f) ∧ St S M w' := by
  unfold Rets
  have k1 := h1.oneCell
  have hyes : f ∈ a → Hid (hasD a f = true) := fun h => Lib.hid (decide_eq_true h)
  have hno : ¬ f ∈ a → Hid (hasD a f = false) := fun h => Lib.hid (decide_eq_false h)
  go_enter Tryd.func23, Tryd.ntmps23
  repeat' ((fail_if_success (with_reducible show Code.wp _ (Code.region 1 _ _) _ _ _)); first | ((fail_if_success (go_big_may)); (go_step)) | (((((refine s_box hst evX rfl ?_; clear hst; intro bx w hst)))) <;> (try refine nX ?_) <;> (try replace hst := nH hst)))
  obtain ⟨S1, hS1, hstA, hpb⟩ := pt_box (α := Fa) hst hR (Rep.len hR)
  clear hst
  obtain ⟨S2, hS2, hst, hpa⟩ := pt_box (α := Dir) hstA (dir_mk (h1.mono hS1)) rfl
  clear hstA
  replace hpb := hpb.mono hS2
  replace hS2 := hS1.trans hS2
  clear hS1 h1 hR
  repeat' (((fail_if_success (go_big_may)); (go_step)))
  go_loopw [5] (fun v wr => ∃ k : Nat, k ≤ a.length ∧ v = .int .i64 k ∧ Hid (¬ f ∈ a.take k) ∧ St S2 M wr) (fun v _ => a.length - (intOf v).toNat)
  case atStart => exact ⟨0, Nat.zero_le _, rfl, Lib.hid (by simp), hst⟩
  case round =>
    clear hst
    obtain ⟨k, hk, rfl, ht, hst⟩ := hrel
    by_cases hlt : k < a.length
    · have oak := oa _ (List.getElem_mem hlt)
      obtain ⟨z, hz⟩ : ∃ z, decide (a[k] = f) = z := ⟨_, rfl⟩
      have cF0 := fun {S : Snap} {M : List Chunk} (w : World) (hst : St S M w) (ca : List Value) (ha : Rep.R S ca a[k]) (cs : List Value) (hR : Rep.R S cs f) => (rfact_c w hst ca cs a[k] f ha hR oak ok).eq hz
      have hz := Lib.hid hz
      have hmem := Lib.hid (List.getElem_mem hlt)
      repeat' (first | ((first | (with_reducible (refine Sl.k_field ?_; (refine s_ex hst (qt_fieldp evX hpa inX inX rfl) ?_); rintro vf hpf)) | (with_reducible (refine Sl.k_load ?_; refine s_ex hst (qt_ldp_list evX hpf inX) ?_; rintro vl ⟨hvl, hvl1⟩; replace hvl : RSl S2 vl a := hvl))) <;> (try refine nX ?_)) | ((fail_if_success (go_big_may)); (go_step)) | (((with_reducible refine Sl.k_call ?_; (refine s_qt hst (by exact qt_len evX asX inX) ?_))) <;> (try refine nX ?_)) | (with_reducible refine Sl.gate rfl ?_; (go_step)))
      refine v_begin hst (by kernel_rfl) ?_; clear hst; intro ops; (try refine nX ?_)
      ((refine t_ex0 0 rfl (by kernel_rfl) rfl rfl (qt_fieldp evX hpa inX inX rfl ) ?_; rintro  v0 hp0)) <;> (try refine nX ?_)
      ((refine t_ex0 1 rfl (by kernel_rfl) rfl rfl (qt_ldp_list evX hp0 inX ) ?_; rintro  v1 ⟨hv1, hv11⟩; replace hv1 : RSl S2 v1 a := hv1)) <;> (try refine nX ?_)
      (refine t_qt 2 rfl (by kernel_rfl) rfl rfl (by exact qt_move evX) ?_) <;> (try refine nX ?_)
      ((refine t_ex0 3 rfl (by kernel_rfl) rfl rfl (qt_index evX hv1 rfl inX inX omX omX ) ?_; rintro  v3 hp3; simp only [Int.toNat_natCast] at hp3)) <;> (try refine nX ?_)
      ((refine t_ex0 4 rfl (by kernel_rfl) rfl rfl (qt_ldp evX hp3 inX ) ?_; rintro  v4 ⟨c4, rfl, hc4⟩)) <;> (try refine nX ?_)
      ((refine t_ex0 5 rfl (by kernel_rfl) rfl rfl (qt_ldp evX hpb inX ) ?_; rintro  v5 ⟨c5, rfl, hc5⟩)) <;> (try refine nX ?_)
      (refine t_call 6 rfl (by kernel_rfl) rfl (fun S' M' w hS hM hst => cF0 w hst c4 (Rep.mono hS hc4) c5 (Rep.mono hS hc5)) inX rfl ?_) <;> (try refine nX ?_)
      (refine t_qt 7 rfl (by kernel_rfl) rfl rfl (by exact qt_assign evX) ?_) <;> (try refine nX ?_)
      refine v_done (by kernel_rfl) ?_; clear ops; intro w hst
      cases z with
      | true =>
        repeat' (((fail_if_success (go_big_may)); (go_step)))
        go_ret
        exact ⟨_, rfl, by rw [(hyes (by rw [← of_decide_eq_true hz.out]; exact hmem.out)).out]; rfl, St.weaken hS2 hst⟩
      | false =>
        repeat' (first | ((fail_if_success (go_big_may)); (go_step)) | (with_reducible refine Sl.gate rfl ?_; (go_step)))
        go_roundw
        case rel => exact ⟨k + 1, by omega, by go_num, Lib.hid (by
          rw [List.take_succ_eq_append_getElem hlt, List.mem_append, List.mem_singleton]
          rintro (h | h)
          · exact ht.out h
          · exact of_decide_eq_false hz.out h.symm), hst⟩
        case measure => simp [intOf]; omega
    · have he := hno (by have := ht.out; rwa [List.take_of_length_le (by omega)] at this)
      repeat' (first | ((first | (with_reducible (refine Sl.k_field ?_; (refine s_ex hst (qt_fieldp evX hpa inX inX rfl) ?_); rintro vf hpf)) | (with_reducible (refine Sl.k_load ?_; refine s_ex hst (qt_ldp_list evX hpf inX) ?_; rintro vl ⟨hvl, hvl1⟩; replace hvl : RSl S2 vl a := hvl))) <;> (try refine nX ?_)) | ((fail_if_success (go_big_may)); (go_step)) | (((with_reducible refine Sl.k_call ?_; (refine s_qt hst (by exact qt_len evX asX inX) ?_))) <;> (try refine nX ?_)) | (with_reducible refine Sl.gate rfl ?_; (go_step)))
      go_ret
      exact ⟨_, rfl, by rw [he.out]; rfl, St.weaken hS2 hst⟩
end Go.Proofs.YtjapdhaimbalkaaDoor

/- Package directory: the reference's Few and the laws' few, walked. -/
--@hgp
--@flat
--@dg
--@ex0
namespace Go.Proofs.YtjapdhaimbalkaaDoor
set_option linter.unusedSimpArgs false
set_option linter.unusedVariables false
open Go.RowKit Go.Sl Go.Srt

def fewF (f : Fa) : Prop := f.2.1.b.length ≤ 300 ∧ f.2.2.1.2.2.2.1.length ≤ 10
instance (f : Fa) : Decidable (fewF f) := inferInstanceAs (Decidable (_ ∧ _))
def fewD (a : List Fa) : Bool := decide (a.length ≤ 30) && a.all fun f => decide (fewF f)
theorem fewD_big {a : List Fa} (h : 30 < a.length) : fewD a = false := by rw [fewD, decide_eq_false (by omega)]; rfl
theorem fewD_no {a : List Fa} {i : Nat} (h : i < a.length) (hn : ¬ fewF a[i]) : fewD a = false := by
  rw [fewD, Bool.and_eq_false_iff]
  refine .inr (Bool.eq_false_iff.2 fun ha => hn ?_)
  exact of_decide_eq_true (List.all_eq_true.1 ha _ (List.getElem_mem h))
theorem fewD_yes {a : List Fa} (h : a.length ≤ 30) (ha : ∀ e ∈ a, fewF e) : fewD a = true := by
  rw [fewD, decide_eq_true h, Bool.true_and, List.all_eq_true]
  exact fun e he => decide_eq_true (ha e he)
theorem fewD_of {a : List Fa} (h : fewD a = true) : a.length ≤ 30 ∧ ∀ e ∈ a, fewF e := by
  rw [fewD, Bool.and_eq_true, decide_eq_true_eq, List.all_eq_true] at h
  exact ⟨h.1, fun e he => of_decide_eq_true (h.2 e he)⟩

set_option maxRecDepth 8000 in
set_option maxHeartbeats 8000000 in
theorem rfew_c {S M} (w : World) (hst : St S M w) (u1 : Value) (a : List Fa) (h1 : RSl S u1 a) :
    Rets Tryd.prog 10 [.agg [u1].toArray] w fun v w' => v = .bool (fewD a) ∧ St S M w' := by
  unfold Rets
  have k1 := h1.oneCell
  by_cases h10 : 30 < a.length
  · have hE := Lib.hid (fewD_big h10)
    go_enter Tryd.func10, Tryd.ntmps10
    repeat' (first | ((fail_if_success (go_big_may)); (go_step)) | ((first | (with_reducible refine Sl.k_load ?_; (refine s_qt hst (by exact qt_load rfl _ BoxIn.h inX rfl rfl) ?_)) | (with_reducible refine Sl.k_field ?_; (refine s_qt hst (qt_field rfl inX) ?_)) | (with_reducible refine Sl.k_call ?_; (refine s_qt hst (by exact qt_len evX asX inX) ?_))) <;> (try refine nX ?_)) | (with_reducible refine Sl.gate rfl ?_; (go_step)) | (((((refine s_box hst evX rfl ?_; clear hst; intro bx w hst)))) <;> (try refine nX ?_) <;> (try replace hst := nH hst)))
    go_ret
    exact ⟨_, rfl, by rw [hE.out]; rfl, hst.drop⟩
  · go_enter Tryd.func10, Tryd.ntmps10
    repeat' (first | ((fail_if_success (go_big_may)); (go_step)) | ((first | (with_reducible refine Sl.k_load ?_; (refine s_qt hst (by exact qt_load rfl _ BoxIn.h inX rfl rfl) ?_)) | (with_reducible refine Sl.k_field ?_; (refine s_qt hst (qt_field rfl inX) ?_)) | (with_reducible refine Sl.k_call ?_; (refine s_qt hst (by exact qt_len evX asX inX) ?_))) <;> (try refine nX ?_)) | (with_reducible refine Sl.gate rfl ?_; (go_step)) | (((((refine s_box hst evX rfl ?_; clear hst; intro bx w hst)))) <;> (try refine nX ?_) <;> (try replace hst := nH hst)))
    go_loopw [3] (fun v wr => ∃ i : Nat, i ≤ a.length ∧ v = .int .i64 i ∧ Hid (∀ e ∈ a.take i, fewF e) ∧ St S (.box bx [u1] 27 :: M) wr) (fun v _ => a.length - (intOf v).toNat)
    case atStart => exact ⟨0, Nat.zero_le _, rfl, Lib.hid (by simp), hst⟩
    case round =>
      clear hst
      obtain ⟨i, hi, rfl, ht, hst⟩ := hrel
      by_cases hlt : i < a.length
      · have hN := Lib.hid (fun h => fewD_no (a := a) hlt h)
        repeat' (first | (((with_reducible refine Sl.k_guard ?_; (first | (refine Sl.guard_yes rfl ?_) | (refine Sl.guard_no rfl ?_) | (refine Sl.guard_cases rfl ?_ ?_ <;> intro hg <;> (simp only [hg, Bool.not_true, Bool.not_false])) <;> (try simp only [decide_eq_true_eq, decide_eq_false_iff_not, Bool.not_false, Bool.not_true, beq_iff_eq, beq_eq_false_iff_ne, bne_iff_ne, bne_eq_false_iff_eq, ne_eq] at hg)))) <;> (try refine nX ?_)) | ((fail_if_success (go_big_may)); (go_step)) | ((first | (with_reducible refine Sl.k_load ?_; (first | refine s_qt hst (by exact qt_load rfl _ BoxIn.h inX rfl rfl) ?_ | (refine s_ex hst (qt_ldp_str evX asX inX) ?_; rintro v ⟨rfl, hs⟩) | (refine s_ex hst (qt_ldp_list evX asX inX) ?_; rintro v ⟨hvl, hv1⟩))) | (with_reducible refine Sl.k_field ?_; (first | refine s_qt hst (qt_field rfl inX) ?_ | ((refine s_ex hst (qt_fieldp evX asX inX inX rfl) ?_); rintro v hp; (try simp only [Int.toNat_natCast, Int.toNat_natCast_add_one, Int.reduceToNat] at hp)))) | (with_reducible refine Sl.k_index ?_; (((refine s_ex hst (qt_index evX asX rfl inX inX omX omX) ?_); rintro v hp; (try simp only [Int.toNat_natCast, Int.toNat_natCast_add_one, Int.reduceToNat] at hp)))) | (with_reducible refine Sl.k_call ?_; (refine s_qt hst (by first | exact qt_len evX asX inX | exact qt_len_str evX inX) ?_))) <;> (try refine nX ?_)) | (with_reducible refine Sl.gate rfl ?_; (go_step)))
        all_goals first
          | (go_ret; exact ⟨_, rfl, by rw [hN.out (by unfold fewF; omega)]; rfl, hst.drop⟩)
          | (go_roundw; case rel => exact ⟨i + 1, by omega, by go_num, Lib.hid (fun e he => by
              rw [List.take_succ_eq_append_getElem hlt] at he
              rcases List.mem_append.1 he with h | h
              · exact ht.out e h
              · obtain rfl := List.mem_singleton.1 h; unfold fewF; omega), hst⟩
             case measure => simp [intOf]; omega)
      · have hE : Hid (fewD a = true) := Lib.hid (fewD_yes (by omega) (by have := ht.out; rwa [List.take_of_length_le (by omega)] at this))
        repeat' (first | ((fail_if_success (go_big_may)); (go_step)) | ((first | (with_reducible refine Sl.k_load ?_; (refine s_qt hst (by exact qt_load rfl _ BoxIn.h inX rfl rfl) ?_)) | (with_reducible refine Sl.k_field ?_; (refine s_qt hst (qt_field rfl inX) ?_)) | (with_reducible refine Sl.k_call ?_; (refine s_qt hst (by exact qt_len evX asX inX) ?_))) <;> (try refine nX ?_)) | (with_reducible refine Sl.gate rfl ?_; (go_step)))
        go_ret
        exact ⟨_, rfl, by rw [hE.out]; rfl, hst.drop⟩

end Go.Proofs.YtjapdhaimbalkaaDoor

/- Package directory: the laws' few, walked. -/
--@hgp
--@flat
--@dg
--@ex0
namespace Go.Proofs.YtjapdhaimbalkaaDoor
set_option linter.unusedSimpArgs false
set_option linter.unusedVariables false
open Go.RowKit Go.Sl Go.Srt

theorem r_listD {α : Type} [Rep α] {S : Snap} {u : Value} {xs : List α} (h : RSl S u xs) : Rep.R S u.cells.toList xs := ⟨u, cells_one h.oneCell, h⟩
theorem nil_dir {S : Snap} : Rep.R S [.slice none 0 0] (([], ()) : Dir) := dir_mk (.inl ⟨none, 0, rfl, rfl, by unfold maxLen; omega⟩)
theorem wfew_c {S M} (w : World) (hst : St S M w) (c1 : List Value) (a : List Fa) (h1 : Rep.R S c1 ((a, ()) : Dir)) :
    Rets Tryd.prog 10 [.agg c1.toArray] w fun v w' => v = .bool (fewD a) ∧ St S M w' := by
  obtain ⟨u1, rfl, h0⟩ := dir_of h1
  exact rfew_c w hst u1 a h0

set_option maxRecDepth 8000 in
set_option maxHeartbeats 1000000 in
theorem few1_c {S M} (w : World) (hst : St S M w) (cs : List Value) (f : Fa) (hR : Rep.R S cs f) :
    Rets Tryd.prog 13 [.agg cs.toArray] w fun v w' => v = .bool (fewD [f]) ∧ St S M w' := by
  unfold Rets
  obtain ⟨a0, a1, a2, a3, a4, a5, a6, a7, a8, a9, a10, a11, a12, a13, a14, a15, a16, a17, a18, a19, a20, a21, rfl⟩ := list22 (Rep.len hR)
  go_enter Tryd.func13, Tryd.ntmps13
  repeat' (first | (((with_reducible (refine Sl.k_load ?_; with_unfolding_all refine s_qt hst (qt_loadF (x0 := f) rfl BoxIn.h hR inX) ?_))) <;> (try refine nX ?_)) | ((fail_if_success (go_big_may)); (go_step)) | (((((refine s_box hst evX rfl ?_; clear hst; intro bx w hst)))) <;> (try refine nX ?_) <;> (try replace hst := nH hst)))
  refine s_lit (vs := [.agg [a0, a1, a2, a3, a4, a5, a6, a7, a8, a9, a10, a11, a12, a13, a14, a15, a16, a17, a18, a19, a20, a21].toArray]) (cs := [a0, a1, a2, a3, a4, a5, a6, a7, a8, a9, a10, a11, a12, a13, a14, a15, a16, a17, a18, a19, a20, a21]) hst inX inX rfl rfl (by simp [Value.cells]) rfl (by omega) (by omega) ?_
  clear hst; intro x w hst
  (try refine nX ?_)
  (try replace hst := nH hst)
  obtain ⟨S0, hS0, hst, hx0⟩ := St.freeze (α := Fa) hst (RL.one_mk hR) rfl
  have kx := hx0.oneCell
  repeat' (first | (((with_reducible (refine Sl.k_build ?_; with_unfolding_all refine s_ex hst (qt_buildP (x' := (([f], ()) : Dir)) inX inX nil_dir (.cons (k := 0) (y := [f]) (r_listD hx0) rfl .nil)) ?_; rintro vz ⟨cz, rfl, hcz⟩))) <;> (try refine nX ?_)) | (((with_reducible refine Sl.k_call ?_; ((refine s_call (wfew_c _ hst cz [f] hcz) inX rfl ?_; clear hst; rintro v w ⟨rfl, hst⟩)))) <;> (try refine nX ?_) <;> (try replace hst := nH hst)) | ((fail_if_success (go_big_may)); (go_step)))
  go_ret
  exact ⟨_, rfl, rfl, St.weaken hS0 hst.drop⟩
end Go.Proofs.YtjapdhaimbalkaaDoor

/- Package directory: the law's example facts, plain. -/
namespace Go.Proofs.YtjapdhaimbalkaaDoor
set_option linter.unusedSimpArgs false
set_option linter.unusedVariables false
open Go.RowKit Go.Sl

def digKd {α : Type} (tag : Int) (parts : List (List UInt8)) (k : List UInt8 → α) : α := hashK (UInt8.ofNat tag.toNat :: joinB parts) fun h => fzBs (h.take 16) k
theorem digKd_eq {α : Type} (tag : Int) (parts : List (List UInt8)) (k : List UInt8 → α) : digKd tag parts k = k (dig tag parts) := by
  rw [digKd, hashK_eq, fzBs_eq]; rfl
def d3d : Dg := ⟨[3, 0, 0, 0, 0, 0, 0, 0, 0, 0, 0, 0, 0, 0, 0, 0]⟩
def accT : List UInt8 := [97, 99, 99, 101, 112, 116, 59]
def fR : Fa := (3, ⟨[]⟩, (0, 0, 0, [], ()), d3d, ())
def fS : Fa := (1, ⟨accT⟩, (0, 0, 0, [], ()), zeroDg, ())
def fX : Fa := (4, ⟨[120]⟩, (0, 0, 0, [], ()), zeroDg, ())
theorem fR_ok : FaOk fR := ⟨by unfold I64 fR; decide, by decide, ⟨⟨by decide, by decide⟩, ⟨by decide, by decide⟩, ⟨by decide, by decide⟩, fun d hd => nomatch hd⟩, by decide, rfl⟩
theorem fS_ok : FaOk fS := ⟨by unfold I64 fS; decide, by decide, ⟨⟨by decide, by decide⟩, ⟨by decide, by decide⟩, ⟨by decide, by decide⟩, fun d hd => nomatch hd⟩, by decide, rfl⟩
theorem fX_ok : FaOk fX := ⟨by unfold I64 fX; decide, by decide, ⟨⟨by decide, by decide⟩, ⟨by decide, by decide⟩, ⟨by decide, by decide⟩, fun d hd => nomatch hd⟩, by decide, rfl⟩
theorem fR_val : validF fR = true := by decide
theorem fS_val : validF fS = true := by decide
theorem fX_val : validF fX = false := by decide
theorem nrm_1 : nrm ([] ++ [fR]) = [fR] := by decide +kernel
theorem nrm_2 : nrm ([fR] ++ [fR]) = [fR] := by decide +kernel
theorem nrm_3 : nrm ([fR] ++ [fS]) = [fS, fR] := by decide +kernel
theorem nrm_4 : nrm [fS, fR] = [fS, fR] := by decide +kernel
theorem nrm_5 : nrm [fR] = [fR] := by decide +kernel
theorem src_s : srcD [fS, fR] (sdgP accT) = (⟨accT⟩, true) := by
  unfold srcD
  rw [nrm_4]
  refine findV_some (k := 0) (F := [fS, fR]) (by decide) (by intro f hf; cases hf) ?_
  have : decide (sdgP fS.2.1.b = sdgP accT) = true := decide_eq_true rfl
  show ((1 : Int) == 1 && decide (sdgP fS.2.1.b = sdgP accT)) = true
  rw [this]
  rfl
theorem rev_s : (lstD [fS, fR] 3 d3d).2 = true := by unfold lstD; rw [nrm_4]; decide
theorem bad_s : (lstD [fS, fR] 4 d3d).2 = false := by unfold lstD; rw [nrm_4]; decide
theorem digD_1 : digD [fR] = leafM (fdg fR) := by unfold digD; rw [nrm_5]; rfl
theorem digD_2 : digD [fS, fR] = nodeM (leafM (fdg fS)) (leafM (fdg fR)) := by unfold digD; rw [nrm_4]; rfl
set_option maxRecDepth 1000000 in
theorem dig_ne : decide (digD [fR] = digD [fS, fR]) = false := by
  rw [digD_1, digD_2]
  have h : (digKd 17 [encFa fR] fun a => digKd 17 [encFa fS] fun b => digKd 1 [a] fun a => digKd 1 [b] fun b => digKd 2 [b, a] fun c => decide (a ≠ c)) = true := by decide +kernel
  simp only [digKd_eq] at h
  refine decide_eq_false fun e => ?_
  have e' := congrArg Arr.l e
  simp only [leafM, nodeM, fdg] at e'
  exact of_decide_eq_true h e'
end Go.Proofs.YtjapdhaimbalkaaDoor

/- Package directory: contracts for directories as values; the law's sanity function, walked. -/
--@hgp
--@flat
--@dg
--@ex0
namespace Go.Proofs.YtjapdhaimbalkaaDoor
set_option linter.unusedSimpArgs false
set_option linter.unusedVariables false
open Go.RowKit Go.Sl Go.Srt

theorem wmerge_c {S M} (w : World) (hst : St S M w) (c1 c2 : List Value) (a b F : List Fa) (h1 : Rep.R S c1 ((a, ()) : Dir)) (h2 : Rep.R S c2 ((b, ()) : Dir)) (oa : ∀ f ∈ a, FaOk f) (ob : ∀ f ∈ b, FaOk f) (hn : a.length + b.length ≤ 100000) (hF : nrm (a ++ b) = F) :
    Rets Tryd.prog 19 [.agg c1.toArray, .agg c2.toArray] w fun v w' => ∃ S' cs, S.Le S' ∧ v = .agg cs.toArray ∧ Rep.R S' cs ((F, ()) : Dir) ∧ St S' M w' := by
  obtain ⟨u1, rfl, k1⟩ := dir_of h1
  obtain ⟨u2, rfl, k2⟩ := dir_of h2
  subst hF
  exact (merge_c w hst u1 u2 a b k1 k2 oa ob hn).mono fun v w' ⟨S', u, hS, e, hu, h⟩ => ⟨S', [u], hS, e, dir_mk hu, h⟩
theorem wsame_c {S M} (w : World) (hst : St S M w) (c1 c2 : List Value) (a b : List Fa) (h1 : Rep.R S c1 ((a, ()) : Dir)) (h2 : Rep.R S c2 ((b, ()) : Dir)) (oa : ∀ f ∈ a, FaOk f) (ob : ∀ f ∈ b, FaOk f) (ha : a.length ≤ 1000000) (hb : b.length ≤ 1000000) :
    Rets Tryd.prog 12 [.agg c1.toArray, .agg c2.toArray] w fun v w' => v = .bool (decide (a = b)) ∧ St S M w' := by
  obtain ⟨u1, rfl, k1⟩ := dir_of h1
  obtain ⟨u2, rfl, k2⟩ := dir_of h2
  exact rsame_c w hst u1 u2 a b k1 k2 oa ob ha hb
theorem wsame_yes {S M} (w : World) (hst : St S M w) (c1 c2 : List Value) (a : List Fa) (h1 : Rep.R S c1 ((a, ()) : Dir)) (h2 : Rep.R S c2 ((a, ()) : Dir)) (oa : ∀ f ∈ a, FaOk f) (ha : a.length ≤ 1000000) :
    Rets Tryd.prog 12 [.agg c1.toArray, .agg c2.toArray] w fun v w' => v = .bool true ∧ St S M w' :=
  (wsame_c w hst c1 c2 a a h1 h2 oa oa ha ha).eq (decide_eq_true rfl)
theorem wadd_c {S M} (w : World) (hst : St S M w) (c1 : List Value) (a F : List Fa) (h1 : Rep.R S c1 ((a, ()) : Dir)) (oa : ∀ f ∈ a, FaOk f) (cs : List Value) (f : Fa) (hR : Rep.R S cs f) (ok : FaOk f) (hn : a.length ≤ 90000) (e : Int) (he : (if validF f = true then (0 : Int) else 1) = e) (hF : (if validF f = true then nrm (a ++ [f]) else []) = F) :
    Rets Tryd.prog 11 [.agg c1.toArray, .agg cs.toArray] w fun v w' => ∃ S' cs, S.Le S' ∧ v = .tuple #[.agg cs.toArray, .int .i64 e] ∧ Rep.R S' cs ((F, ()) : Dir) ∧ St S' M w' := by
  obtain ⟨u1, rfl, k1⟩ := dir_of h1
  subst he
  subst hF
  exact (add_c w hst u1 a k1 oa cs f hR ok hn).mono fun v w' ⟨S', u, hS, e, hu, h⟩ => ⟨S', [u], hS, e, dir_mk hu, h⟩
theorem wdig_c {S M} (w : World) (hst : St S M w) (hG : Glob S) (c1 : List Value) (a : List Fa) (h1 : Rep.R S c1 ((a, ()) : Dir)) (oa : ∀ f ∈ a, FaOk f) (hn : a.length ≤ 90000) :
    Rets Tryd.prog 21 [.agg c1.toArray] w fun v w' => v = dgVm (digD a) ∧ St S M w' := by
  obtain ⟨u1, rfl, k1⟩ := dir_of h1
  exact ddigest_c w hst hG u1 a k1 oa hn
theorem wrev_c {S M} (w : World) (hst : St S M w) (c1 : List Value) (a : List Fa) (h1 : Rep.R S c1 ((a, ()) : Dir)) (oa : ∀ f ∈ a, FaOk f) (hn : a.length ≤ 90000) (d : Dg) (hd : d.l.length = 16) :
    Rets Tryd.prog 33 [.agg c1.toArray, dgVm d] w fun v w' => v = .bool (lstD a 3 d).2 ∧ St S M w' := by
  obtain ⟨u1, rfl, k1⟩ := dir_of h1
  exact revoked_c w hst u1 a k1 oa hn d hd
theorem wbad_c {S M} (w : World) (hst : St S M w) (c1 : List Value) (a : List Fa) (h1 : Rep.R S c1 ((a, ()) : Dir)) (oa : ∀ f ∈ a, FaOk f) (hn : a.length ≤ 90000) (d : Dg) (hd : d.l.length = 16) :
    Rets Tryd.prog 35 [.agg c1.toArray, dgVm d] w fun v w' => v = .bool (lstD a 4 d).2 ∧ St S M w' := by
  obtain ⟨u1, rfl, k1⟩ := dir_of h1
  exact bad_c w hst u1 a k1 oa hn d hd
theorem wsrc_c {S M} (w : World) (hst : St S M w) (hG : Glob S) (c1 : List Value) (a : List Fa) (h1 : Rep.R S c1 ((a, ()) : Dir)) (oa : ∀ f ∈ a, FaOk f) (hn : a.length ≤ 90000) (d : Dg) (hd : d.l.length = 16) :
    Rets Tryd.prog 28 [.agg c1.toArray, dgVm d] w fun v w' => v = .tuple #[.string ⟨(srcD a d).1.b.toArray⟩, .bool (srcD a d).2] ∧ St S M w' := by
  obtain ⟨u1, rfl, k1⟩ := dir_of h1
  exact source_c w hst hG u1 a k1 oa hn d hd

theorem i64_d {n : Int} (h : -1000 ≤ n ∧ n ≤ 1000) : I64 n := by unfold I64; omega
theorem nil_mf {S : Snap} : Rep.R S [.int .i64 0, .int .i64 0, .int .i64 0, .slice none 0 0] ((0, 0, 0, [], ()) : MF) :=
  prod_mk (cs := [_]) ⟨rfl, i64_d (by decide)⟩ (prod_mk (cs := [_]) ⟨rfl, i64_d (by decide)⟩ (prod_mk (cs := [_]) ⟨rfl, i64_d (by decide)⟩ (prod_mk (cs := [.slice none 0 0]) ⟨_, rfl, .inl ⟨none, 0, rfl, rfl, by unfold maxLen; omega⟩⟩ unit_mk)))
theorem r_faL {S : Snap} {k : Int} {t : List UInt8} {d : Dg} (ht : t.length ≤ 1000) (hk : -1000 ≤ k ∧ k ≤ 1000) (hd : d.l.length = 16) : Rep.R S (.int .i64 k :: .string ⟨t.toArray⟩ :: .int .i64 0 :: .int .i64 0 :: .int .i64 0 :: .slice none 0 0 :: u8s d.l) ((k, ⟨t⟩, (0, 0, 0, [], ()), d, ()) : Fa) := by
  have h := prod_mk (S := S) (cs := [.int .i64 k]) (x := k) ⟨rfl, i64_d hk⟩ (prod_mk (cs := [.string ⟨t.toArray⟩]) (x := (⟨t⟩ : Str)) ⟨rfl, by unfold maxLen; simp only; omega⟩ (prod_mk (x := ((0, 0, 0, [], ()) : MF)) nil_mf (prod_mk (x := d) (r_dgd hd) unit_mk)))
  rw [List.append_nil] at h
  exact h
abbrev csR : List Value := [.int .i64 3, .string ⟨#[]⟩, .int .i64 0, .int .i64 0, .int .i64 0, .slice none 0 0, .int .u8 3, .int .u8 0, .int .u8 0, .int .u8 0, .int .u8 0, .int .u8 0, .int .u8 0, .int .u8 0, .int .u8 0, .int .u8 0, .int .u8 0, .int .u8 0, .int .u8 0, .int .u8 0, .int .u8 0, .int .u8 0]
abbrev csS : List Value := [.int .i64 1, .string ⟨#[97, 99, 99, 101, 112, 116, 59]⟩, .int .i64 0, .int .i64 0, .int .i64 0, .slice none 0 0, .int .u8 0, .int .u8 0, .int .u8 0, .int .u8 0, .int .u8 0, .int .u8 0, .int .u8 0, .int .u8 0, .int .u8 0, .int .u8 0, .int .u8 0, .int .u8 0, .int .u8 0, .int .u8 0, .int .u8 0, .int .u8 0]
abbrev csX : List Value := [.int .i64 4, .string ⟨#[120]⟩, .int .i64 0, .int .i64 0, .int .i64 0, .slice none 0 0, .int .u8 0, .int .u8 0, .int .u8 0, .int .u8 0, .int .u8 0, .int .u8 0, .int .u8 0, .int .u8 0, .int .u8 0, .int .u8 0, .int .u8 0, .int .u8 0, .int .u8 0, .int .u8 0, .int .u8 0, .int .u8 0]
theorem r_R {S : Snap} : Rep.R S csR fR := r_faL (k := 3) (t := []) (d := d3d) (by decide) (by decide) rfl
theorem r_S {S : Snap} : Rep.R S csS fS := r_faL (k := 1) (t := accT) (d := zeroDg) (by decide) (by decide) rfl
theorem r_X {S : Snap} : Rep.R S csX fX := r_faL (k := 4) (t := [120]) (d := zeroDg) (by decide) (by decide) rfl
theorem ok_1 : ∀ f ∈ [fR], FaOk f := fun f hf => by obtain rfl := List.mem_singleton.1 hf; exact fR_ok
theorem ok_2 : ∀ f ∈ [fS, fR], FaOk f := fun f hf => by
  simp only [List.mem_cons, List.not_mem_nil, or_false] at hf
  rcases hf with rfl | rfl
  · exact fS_ok
  · exact fR_ok
theorem cAdd1 {S M} (w : World) (hst : St S M w) (cf : List Value) (hf : Rep.R S cf fR) : Rets Tryd.prog 11 [.agg #[.slice none 0 0], .agg cf.toArray] w fun v w' => ∃ S' cs, S.Le S' ∧ v = .tuple #[.agg cs.toArray, .int .i64 0] ∧ Rep.R S' cs (([fR], ()) : Dir) ∧ St S' M w' :=
  wadd_c w hst [.slice none 0 0] [] [fR] nil_dir (by simp) cf fR hf fR_ok (by simp) 0 (if_pos fR_val) (by rw [if_pos fR_val, nrm_1])
theorem cAdd2 {S M} (w : World) (hst : St S M w) (c : List Value) (h : Rep.R S c (([fR], ()) : Dir)) (cf : List Value) (hf : Rep.R S cf fR) : Rets Tryd.prog 11 [.agg c.toArray, .agg cf.toArray] w fun v w' => ∃ S' cs, S.Le S' ∧ v = .tuple #[.agg cs.toArray, .int .i64 0] ∧ Rep.R S' cs (([fR], ()) : Dir) ∧ St S' M w' :=
  wadd_c w hst c [fR] [fR] h ok_1 cf fR hf fR_ok (by simp) 0 (if_pos fR_val) (by rw [if_pos fR_val, nrm_2])
theorem cAdd3 {S M} (w : World) (hst : St S M w) (c : List Value) (h : Rep.R S c (([fR], ()) : Dir)) : Rets Tryd.prog 11 [.agg c.toArray, .agg csS.toArray] w fun v w' => ∃ S' cs, S.Le S' ∧ v = .tuple #[.agg cs.toArray, .int .i64 0] ∧ Rep.R S' cs (([fS, fR], ()) : Dir) ∧ St S' M w' :=
  wadd_c w hst c [fR] [fS, fR] h ok_1 csS fS r_S fS_ok (by simp) 0 (if_pos fS_val) (by rw [if_pos fS_val, nrm_3])
theorem cAdd4 {S M} (w : World) (hst : St S M w) (c : List Value) (h : Rep.R S c (([fS, fR], ()) : Dir)) : Rets Tryd.prog 11 [.agg c.toArray, .agg csX.toArray] w fun v w' => ∃ S' cs, S.Le S' ∧ v = .tuple #[.agg cs.toArray, .int .i64 1] ∧ Rep.R S' cs (([], ()) : Dir) ∧ St S' M w' :=
  wadd_c w hst c [fS, fR] [] h ok_2 csX fX r_X fX_ok (by simp) 1 (if_neg (by rw [fX_val]; simp)) (if_neg (by rw [fX_val]; simp))

theorem cSrc0 {S M} (w : World) (hst : St S M w) (hG : Glob S) (c : List Value) (h : Rep.R S c (([fS, fR], ()) : Dir)) : Rets Tryd.prog 28 [.agg c.toArray, dgVm (sdgP accT)] w fun v w' => v = .tuple #[.string ⟨#[97, 99, 99, 101, 112, 116, 59]⟩, .bool true] ∧ St S M w' :=
  (wsrc_c w hst hG c [fS, fR] h ok_2 (by simp) (sdgP accT) (sdgP_len _)).mono fun v w' ⟨e, h⟩ => ⟨by rw [e, src_s]; rfl, h⟩
theorem cRv {S M} (w : World) (hst : St S M w) (c : List Value) (h : Rep.R S c (([fS, fR], ()) : Dir)) : Rets Tryd.prog 33 [.agg c.toArray, .agg (u8s d3d.l).toArray] w fun v w' => v = .bool true ∧ St S M w' :=
  (wrev_c w hst c [fS, fR] h ok_2 (by simp) d3d rfl).mono fun v w' ⟨e, h⟩ => ⟨by rw [e, rev_s], h⟩
theorem cBd {S M} (w : World) (hst : St S M w) (c : List Value) (h : Rep.R S c (([fS, fR], ()) : Dir)) : Rets Tryd.prog 35 [.agg c.toArray, .agg (u8s d3d.l).toArray] w fun v w' => v = .bool false ∧ St S M w' :=
  (wbad_c w hst c [fS, fR] h ok_2 (by simp) d3d rfl).mono fun v w' ⟨e, h⟩ => ⟨by rw [e, bad_s], h⟩
theorem cVa {S M} (w : World) (hst : St S M w) (c : List Value) (h : Rep.R S c fR) : Rets Tryd.prog 15 [.agg c.toArray] w fun v w' => v = .bool true ∧ St S M w' :=
  (fvalid_c w hst c fR h fR_ok).mono fun v w' ⟨e, h⟩ => ⟨by rw [e, fR_val], h⟩

set_option maxRecDepth 60000 in
set_option maxHeartbeats 4000000 in
theorem dsanity_c {S M} (w : World) (hst : St S M w) (hG : Glob S) : Rets Tryd.prog 9 [] w fun v w' => v = .bool true ∧ St S M w' := by
  unfold Rets
  go_enter Tryd.func9, Tryd.ntmps9
  repeat' ((fail_if_success (with_reducible show Code.wp _ (Code.region 2 _ _) _ _ _)); first | ((fail_if_success (go_big_may)); (go_step)) | (with_reducible refine Sl.gate rfl ?_; (go_step)) | ((((first | (with_reducible refine Sl.k_store ?_; (refine s_store hst rfl _ BoxIn.h inX evX rfl lenOk oneOk (by simp) ?_); clear hst; intro w hst) | (refine s_alloc hst inX ?_; clear hst; intro bk w hst)))) <;> (try refine nX ?_) <;> (try replace hst := nH hst)))
  rename Nat => b1
  obtain ⟨S0, hS0, hst0, hpf⟩ := pt_box (α := Fa) (x := fR) hst r_R rfl
  clear hst
  have hst := hst0
  clear hst0
  repeat' (first | (((with_reducible (refine Sl.k_load ?_; refine s_ex hst (qt_ldp (y := fR) evX hpf inX) ?_; rintro v54 ⟨cf, rfl, hcf⟩))) <;> (try refine nX ?_)) | (((with_reducible refine Sl.k_call ?_; ((refine s_call (cAdd1 _ hst cf hcf) inX rfl ?_; clear hst; rintro v w ⟨S1, c1, hS1, rfl, hR1, hst⟩)))) <;> (try refine nX ?_) <;> (try replace hst := nH hst)) | ((fail_if_success (go_big_may)); (go_step)) | (with_reducible refine Sl.gate rfl ?_; (go_step)) | (((((refine s_alloc hst inX ?_; clear hst; intro bk w hst)))) <;> (try refine nX ?_) <;> (try replace hst := nH hst)))
  refine s_stW0 hst rfl BoxIn.h inX rfl hR1 rfl ?_
  clear hst; intro w hst
  (try refine nX ?_)
  (try replace hst := nH hst)
  repeat' ((fail_if_success (with_reducible show Code.wp _ (Code.region 3 _ _) _ _ _)); ((fail_if_success (go_big_may)); (go_step)))
  obtain ⟨T1, hT1, hst0, hpa⟩ := pt_box (α := Dir) (x := ([fR], ())) hst hR1 (Rep.len hR1)
  clear hst
  have hst := hst0
  clear hst0
  replace hpf := hpf.mono (hS1.trans hT1)
  repeat' (first | (((with_reducible (refine Sl.k_load ?_; (first | (refine s_ex hst (qt_ldp (y := fR) evX hpf inX) ?_; rintro v54 ⟨cf2, rfl, hcf2⟩) | (refine s_ex hst (qt_ldp (α := Dir) (y := ([fR], ())) evX hpa inX) ?_; rintro v55 ⟨ca2, rfl, hca2⟩))))) <;> (try refine nX ?_)) | (((with_reducible refine Sl.k_call ?_; ((refine s_call (cAdd2 _ hst ca2 hca2 cf2 hcf2) inX rfl ?_; clear hst; rintro v w ⟨S2, c2, hS2, rfl, hR2, hst⟩)))) <;> (try refine nX ?_) <;> (try replace hst := nH hst)) | ((fail_if_success (go_big_may)); (go_step)) | (with_reducible refine Sl.gate rfl ?_; (go_step)) | (((((refine s_alloc hst inX ?_; clear hst; intro bk w hst)))) <;> (try refine nX ?_) <;> (try replace hst := nH hst)))
  refine s_stW0 hst rfl BoxIn.h inX rfl hR2 rfl ?_
  clear hst; intro w hst
  (try refine nX ?_)
  (try replace hst := nH hst)
  repeat' ((fail_if_success (with_reducible show Code.wp _ (Code.region 4 _ _) _ _ _)); ((fail_if_success (go_big_may)); (go_step)))
  obtain ⟨T2, hT2, hst0, hpb⟩ := pt_box (α := Dir) (x := ([fR], ())) hst hR2 (Rep.len hR2)
  clear hst
  have hst := hst0
  clear hst0
  replace hpf := hpf.mono (hS2.trans hT2)
  replace hpa := hpa.mono (hS2.trans hT2)
  repeat' (first | (((with_reducible (refine Sl.k_load ?_; refine s_ex hst (qt_ldp (α := Dir) (y := ([fR], ())) evX hpb inX) ?_; rintro v55 ⟨ca3, rfl, hca3⟩))) <;> (try refine nX ?_)) | (((with_reducible refine Sl.k_call ?_; ((refine s_call (cAdd3 _ hst ca3 hca3) inX rfl ?_; clear hst; rintro v w ⟨S3, c3, hS3, rfl, hR3, hst⟩)))) <;> (try refine nX ?_) <;> (try replace hst := nH hst)) | ((fail_if_success (go_big_may)); (go_step)) | (with_reducible refine Sl.gate rfl ?_; (go_step)) | (((((refine s_alloc hst inX ?_; clear hst; intro bk w hst)))) <;> (try refine nX ?_) <;> (try replace hst := nH hst)))
  refine s_stW0 hst rfl BoxIn.h inX rfl hR3 rfl ?_
  clear hst; intro w hst
  (try refine nX ?_)
  (try replace hst := nH hst)
  repeat' ((fail_if_success (with_reducible show Code.wp _ (Code.region 5 _ _) _ _ _)); ((fail_if_success (go_big_may)); (go_step)))
  obtain ⟨T3, hT3, hst0, hpc⟩ := pt_box (α := Dir) (x := ([fS, fR], ())) hst hR3 (Rep.len hR3)
  clear hst
  have hst := hst0
  clear hst0
  replace hpf := hpf.mono (hS3.trans hT3)
  replace hpa := hpa.mono (hS3.trans hT3)
  replace hpb := hpb.mono (hS3.trans hT3)
  repeat' (first | (((with_reducible (refine Sl.k_load ?_; refine s_ex hst (qt_ldp (α := Dir) (y := ([fS, fR], ())) evX hpc inX) ?_; rintro v55 ⟨ca4, rfl, hca4⟩))) <;> (try refine nX ?_)) | (((with_reducible refine Sl.k_call ?_; ((refine s_call (cAdd4 _ hst ca4 hca4) inX rfl ?_; clear hst; rintro v w ⟨S4, c4, hS4, rfl, hR4, hst⟩)))) <;> (try refine nX ?_) <;> (try replace hst := nH hst)) | ((fail_if_success (go_big_may)); (go_step)) | (with_reducible refine Sl.gate rfl ?_; (go_step)) | (((((refine s_alloc hst inX ?_; clear hst; intro bk w hst)))) <;> (try refine nX ?_) <;> (try replace hst := nH hst)))
  refine s_stW0 hst rfl BoxIn.h inX rfl hR4 rfl ?_
  clear hst; intro w hst
  (try refine nX ?_)
  (try replace hst := nH hst)
  repeat' ((fail_if_success (with_reducible show Code.wp _ (Code.region 6 _ _) _ _ _)); ((fail_if_success (go_big_may)); (go_step)))
  obtain ⟨T4, hT4, hst0, hpd⟩ := pt_box (α := Dir) (x := ([], ())) hst hR4 (Rep.len hR4)
  clear hst
  have hst := hst0
  clear hst0
  replace hpf := hpf.mono (hS4.trans hT4)
  replace hpa := hpa.mono (hS4.trans hT4)
  replace hpb := hpb.mono (hS4.trans hT4)
  replace hpc := hpc.mono (hS4.trans hT4)
  have hG4 : Glob T4 := hG.mono (((((hS0.trans hS1).trans (hT1.trans hS2)).trans (hT2.trans hS3)).trans (hT3.trans hS4)).trans hT4)
  have hle : S.Le T4 := ((((hS0.trans hS1).trans (hT1.trans hS2)).trans (hT2.trans hS3)).trans (hT3.trans hS4)).trans hT4
  clear hS0 hS1 hT1 hS2 hT2 hS3 hT3 hS4 hT4 hcf hR1 hca2 hcf2 hR2 hca3 hR3 hca4 hR4
  have cSd := fun {S : Snap} {M : List Chunk} (w : World) (hst : St S M w) (hG : Glob S) => sdig_c w hst hG accT (by decide)
  have cSrc := fun {S : Snap} {M : List Chunk} (w : World) (hst : St S M w) (hG : Glob S) (c : List Value) (h : Rep.R S c (([fS, fR], ()) : Dir)) => cSrc0 w hst hG c h
  have cD1 := fun {S : Snap} {M : List Chunk} (w : World) (hst : St S M w) (hG : Glob S) (c : List Value) (h : Rep.R S c (([fR], ()) : Dir)) => wdig_c w hst hG c [fR] h ok_1 (by simp)
  have cD2 := fun {S : Snap} {M : List Chunk} (w : World) (hst : St S M w) (hG : Glob S) (c : List Value) (h : Rep.R S c (([fS, fR], ()) : Dir)) => wdig_c w hst hG c [fS, fR] h ok_2 (by simp)
  have cSm := fun {S : Snap} {M : List Chunk} (w : World) (hst : St S M w) (c1 c2 : List Value) (h1 : Rep.R S c1 (([fR], ()) : Dir)) (h2 : Rep.R S c2 (([fR], ()) : Dir)) => wsame_yes w hst c1 c2 [fR] h1 h2 ok_1 (by simp)
  have hne := dig_ne
  have hl0 : (sdgP accT).l.length = 16 := sdgP_len _
  have hl1 : (digD [fR]).l.length = 16 := rootM_len _
  have hl2 : (digD [fS, fR]).l.length = 16 := rootM_len _
  generalize sdgP accT = D0 at *
  generalize digD [fR] = D1 at *
  generalize digD [fS, fR] = D2 at *
  haveI : LenIs D0.l 16 := ⟨hl0⟩
  haveI : LenIs D1.l 16 := ⟨hl1⟩
  haveI : LenIs D2.l 16 := ⟨hl2⟩
  refine v_begin hst (by kernel_rfl) ?_; clear hst; intro ops; (try refine nX ?_)
  ((refine t_ex0 0 rfl (by kernel_rfl) rfl rfl (qt_ldp (α := Dir) (y := ([fS, fR], ())) evX hpc inX ) ?_; rintro  v0 ⟨c0, rfl, hc0⟩)) <;> (try refine nX ?_)
  (refine t_call 1 rfl (by kernel_rfl) rfl (fun S' M' w hS hM hst => cSd w hst (hG4.mono hS)) inX rfl ?_) <;> (try refine nX ?_)
  (refine t_call 2 rfl (by kernel_rfl) rfl (fun S' M' w hS hM hst => cSrc w hst (hG4.mono hS) c0 (Rep.mono hS hc0)) inX rfl ?_) <;> (try refine nX ?_)
  (refine t_qt 3 rfl (by kernel_rfl) rfl rfl (by exact qt_move evX) ?_) <;> (try refine nX ?_)
  (refine t_qt 4 rfl (by kernel_rfl) rfl rfl (qt_extract (vs := [.string ⟨#[97, 99, 99, 101, 112, 116, 59]⟩, .bool true]) rfl rfl) ?_) <;> (try refine nX ?_)
  (refine t_qt 5 rfl (by kernel_rfl) rfl rfl (qt_extract (vs := [.string ⟨#[97, 99, 99, 101, 112, 116, 59]⟩, .bool true]) rfl rfl) ?_) <;> (try refine nX ?_)
  (refine t_qt 6 rfl (by kernel_rfl) rfl rfl (by exact qt_assign evX) ?_) <;> (try refine nX ?_)
  (refine t_qt 7 rfl (by kernel_rfl) rfl rfl (by exact qt_assign evX) ?_) <;> (try refine nX ?_)
  refine v_done (by kernel_rfl) ?_; clear ops; intro w hst
  repeat' ((fail_if_success (with_reducible show Code.wp _ (Code.region 7 _ _) _ _ _)); ((fail_if_success (go_big_may)); (go_step)))
  refine v_begin hst (by kernel_rfl) ?_; clear hst; intro ops; (try refine nX ?_)
  (refine t_qt 0 rfl (by kernel_rfl) rfl rfl (by exact qt_move evX) ?_) <;> (try refine nX ?_)
  (refine t_qt 1 rfl (by kernel_rfl) rfl rfl (qt_eql_b rfl rfl (show ((0 : Int) == 0) = true from rfl)) ?_) <;> (try refine nX ?_)
  (refine t_qt 2 rfl (by kernel_rfl) rfl rfl (by exact qt_move evX) ?_) <;> (try refine nX ?_)
  (refine t_qt 3 rfl (by kernel_rfl) rfl rfl (by exact qt_move evX) ?_) <;> (try refine nX ?_)
  ((refine t_qt 4 rfl (by kernel_rfl) rfl rfl (qt_eql_b rfl rfl (show ((0 : Int) == 0) = true from rfl)) ?_)) <;> (try refine nX ?_)
  (refine t_qt 5 rfl (by kernel_rfl) rfl rfl (by exact qt_pick_t rfl evX) ?_) <;> (try refine nX ?_)
  (refine t_qt 6 rfl (by kernel_rfl) rfl rfl (by exact qt_move evX) ?_) <;> (try refine nX ?_)
  (refine t_qt 7 rfl (by kernel_rfl) rfl rfl (by exact qt_move evX) ?_) <;> (try refine nX ?_)
  ((refine t_qt 8 rfl (by kernel_rfl) rfl rfl (qt_eql_b rfl rfl (show ((0 : Int) == 0) = true from rfl)) ?_)) <;> (try refine nX ?_)
  (refine t_qt 9 rfl (by kernel_rfl) rfl rfl (by exact qt_pick_t rfl evX) ?_) <;> (try refine nX ?_)
  (refine t_qt 10 rfl (by kernel_rfl) rfl rfl (by exact qt_move evX) ?_) <;> (try refine nX ?_)
  (refine t_qt 11 rfl (by kernel_rfl) rfl rfl (by exact qt_move evX) ?_) <;> (try refine nX ?_)
  ((refine t_qt 12 rfl (by kernel_rfl) rfl rfl (qt_eql_b rfl rfl (show ((1 : Int) == 1) = true from rfl)) ?_)) <;> (try refine nX ?_)
  (refine t_qt 13 rfl (by kernel_rfl) rfl rfl (by exact qt_pick_t rfl evX) ?_) <;> (try refine nX ?_)
  (refine t_qt 14 rfl (by kernel_rfl) rfl rfl (by exact qt_move evX) ?_) <;> (try refine nX ?_)
  (((refine t_ex0 15 rfl (by kernel_rfl) rfl rfl (qt_fieldp evX hpa inX inX rfl ) ?_; rintro  v15 hp15))) <;> (try refine nX ?_)
  (((refine t_ex0 16 rfl (by kernel_rfl) rfl rfl (qt_ldp_list evX hp15 inX ) ?_; rintro  v16 ⟨hv16, hv161⟩; replace hv16 : RSl T4 v16 [fR] := hv16))) <;> (try refine nX ?_)
  (refine t_qt 17 rfl (by kernel_rfl) rfl rfl (by exact qt_len evX asX inX) ?_) <;> (try refine nX ?_)
  ((refine t_qt 18 rfl (by kernel_rfl) rfl rfl (qt_eql_b rfl rfl (show ((([fR] : List Fa).length : Int) == 1) = true from rfl)) ?_)) <;> (try refine nX ?_)
  (refine t_qt 19 rfl (by kernel_rfl) rfl rfl (by exact qt_pick_t rfl evX) ?_) <;> (try refine nX ?_)
  (refine t_qt 20 rfl (by kernel_rfl) rfl rfl (by exact qt_move evX) ?_) <;> (try refine nX ?_)
  (((refine t_ex0 21 rfl (by kernel_rfl) rfl rfl (qt_ldp (α := Dir) (y := ([fR], ())) evX hpa inX ) ?_; rintro  v21 ⟨c21, rfl, hc21⟩))) <;> (try refine nX ?_)
  (((refine t_ex0 22 rfl (by kernel_rfl) rfl rfl (qt_ldp (α := Dir) (y := ([fR], ())) evX hpb inX ) ?_; rintro  v22 ⟨c22, rfl, hc22⟩))) <;> (try refine nX ?_)
  ((refine t_call 23 rfl (by kernel_rfl) rfl (fun S' M' w hS hM hst => cSm w hst c21 c22 (Rep.mono hS hc21) (Rep.mono hS hc22)) inX rfl ?_)) <;> (try refine nX ?_)
  (refine t_qt 24 rfl (by kernel_rfl) rfl rfl (by exact qt_pick_t rfl evX) ?_) <;> (try refine nX ?_)
  (refine t_qt 25 rfl (by kernel_rfl) rfl rfl (by exact qt_move evX) ?_) <;> (try refine nX ?_)
  (((refine t_ex0 26 rfl (by kernel_rfl) rfl rfl (qt_fieldp evX hpc inX inX rfl ) ?_; rintro  v26 hp26))) <;> (try refine nX ?_)
  (((refine t_ex0 27 rfl (by kernel_rfl) rfl rfl (qt_ldp_list evX hp26 inX ) ?_; rintro  v27 ⟨hv27, hv271⟩; replace hv27 : RSl T4 v27 [fS, fR] := hv27))) <;> (try refine nX ?_)
  (refine t_qt 28 rfl (by kernel_rfl) rfl rfl (by exact qt_len evX asX inX) ?_) <;> (try refine nX ?_)
  ((refine t_qt 29 rfl (by kernel_rfl) rfl rfl (qt_eql_b rfl rfl (show ((([fS, fR] : List Fa).length : Int) == 2) = true from rfl)) ?_)) <;> (try refine nX ?_)
  (refine t_qt 30 rfl (by kernel_rfl) rfl rfl (by exact qt_pick_t rfl evX) ?_) <;> (try refine nX ?_)
  (refine t_qt 31 rfl (by kernel_rfl) rfl rfl (by exact qt_move evX) ?_) <;> (try refine nX ?_)
  (refine t_qt 32 rfl (by kernel_rfl) rfl rfl (by exact qt_move evX) ?_) <;> (try refine nX ?_)
  (refine t_qt 33 rfl (by kernel_rfl) rfl rfl (by exact qt_pick_t rfl evX) ?_) <;> (try refine nX ?_)
  (refine t_qt 34 rfl (by kernel_rfl) rfl rfl (by exact qt_move evX) ?_) <;> (try refine nX ?_)
  (refine t_qt 35 rfl (by kernel_rfl) rfl rfl (by exact qt_move evX) ?_) <;> (try refine nX ?_)
  ((refine t_qt 36 rfl (by kernel_rfl) rfl rfl (qt_eql_str (a := accT) (b := accT) rfl rfl inX (decide_eq_true rfl)) ?_)) <;> (try refine nX ?_)
  (refine t_qt 37 rfl (by kernel_rfl) rfl rfl (by exact qt_pick_t rfl evX) ?_) <;> (try refine nX ?_)
  (refine t_qt 38 rfl (by kernel_rfl) rfl rfl (by exact qt_move evX) ?_) <;> (try refine nX ?_)
  (((refine t_ex0 39 rfl (by kernel_rfl) rfl rfl (qt_ldp (α := Dir) (y := ([fS, fR], ())) evX hpc inX ) ?_; rintro  v39 ⟨c39, rfl, hc39⟩))) <;> (try refine nX ?_)
  ((refine t_qt 40 rfl (by kernel_rfl) rfl rfl (qt_buildA (cs := u8s d3d.l) inX inX inX (by kernel_rfl)) ?_)) <;> (try refine nX ?_)
  ((refine t_call 41 rfl (by kernel_rfl) rfl (fun S' M' w hS hM hst => cRv w hst c39 (Rep.mono hS hc39)) inX rfl ?_)) <;> (try refine nX ?_)
  (refine t_qt 42 rfl (by kernel_rfl) rfl rfl (by exact qt_pick_t rfl evX) ?_) <;> (try refine nX ?_)
  (refine t_qt 43 rfl (by kernel_rfl) rfl rfl (by exact qt_move evX) ?_) <;> (try refine nX ?_)
  (((refine t_ex0 44 rfl (by kernel_rfl) rfl rfl (qt_ldp (α := Dir) (y := ([fS, fR], ())) evX hpc inX ) ?_; rintro  v44 ⟨c44, rfl, hc44⟩))) <;> (try refine nX ?_)
  ((refine t_qt 45 rfl (by kernel_rfl) rfl rfl (qt_buildA (cs := u8s d3d.l) inX inX inX (by kernel_rfl)) ?_)) <;> (try refine nX ?_)
  ((refine t_call 46 rfl (by kernel_rfl) rfl (fun S' M' w hS hM hst => cBd w hst c44 (Rep.mono hS hc44)) inX rfl ?_)) <;> (try refine nX ?_)
  (refine t_qt 47 rfl (by kernel_rfl) rfl rfl (by exact qt_not rfl) ?_) <;> (try refine nX ?_)
  (refine t_qt 48 rfl (by kernel_rfl) rfl rfl (by exact qt_pick_t rfl evX) ?_) <;> (try refine nX ?_)
  (refine t_qt 49 rfl (by kernel_rfl) rfl rfl (by exact qt_move evX) ?_) <;> (try refine nX ?_)
  (((refine t_ex0 50 rfl (by kernel_rfl) rfl rfl (qt_ldp (α := Dir) (y := ([fR], ())) evX hpa inX ) ?_; rintro  v50 ⟨c50, rfl, hc50⟩))) <;> (try refine nX ?_)
  ((refine t_call 51 rfl (by kernel_rfl) rfl (fun S' M' w hS hM hst => cD1 w hst (hG4.mono hS) c50 (Rep.mono hS hc50)) inX rfl ?_)) <;> (try refine nX ?_)
  (((refine t_ex0 52 rfl (by kernel_rfl) rfl rfl (qt_ldp (α := Dir) (y := ([fS, fR], ())) evX hpc inX ) ?_; rintro  v52 ⟨c52, rfl, hc52⟩))) <;> (try refine nX ?_)
  ((refine t_call 53 rfl (by kernel_rfl) rfl (fun S' M' w hS hM hst => cD2 w hst (hG4.mono hS) c52 (Rep.mono hS hc52)) inX rfl ?_)) <;> (try refine nX ?_)
  ((refine t_qt 54 rfl (by kernel_rfl) rfl rfl (qt_neqK_b rfl rfl (r_dgd hl1) (r_dgd hl2) inX inX inferInstance hne) ?_)) <;> (try refine nX ?_)
  (refine t_qt 55 rfl (by kernel_rfl) rfl rfl (by exact qt_pick_t rfl evX) ?_) <;> (try refine nX ?_)
  (refine t_qt 56 rfl (by kernel_rfl) rfl rfl (by exact qt_move evX) ?_) <;> (try refine nX ?_)
  (((refine t_ex0 57 rfl (by kernel_rfl) rfl rfl (qt_ldp (y := fR) evX hpf inX ) ?_; rintro  v57 ⟨c57, rfl, hc57⟩))) <;> (try refine nX ?_)
  ((refine t_call 58 rfl (by kernel_rfl) rfl (fun S' M' w hS hM hst => cVa w hst c57 (Rep.mono hS hc57)) inX rfl ?_)) <;> (try refine nX ?_)
  (refine t_qt 59 rfl (by kernel_rfl) rfl rfl (by exact qt_pick_t rfl evX) ?_) <;> (try refine nX ?_)
  (refine t_qt 60 rfl (by kernel_rfl) rfl rfl (by exact qt_assign evX) ?_) <;> (try refine nX ?_)
  refine v_done (by kernel_rfl) ?_; clear ops; intro w hst
  repeat' (((fail_if_success (go_big_may)); (go_step)))
  go_ret
  exact ⟨_, rfl, rfl, St.weaken hle hst⟩
end Go.Proofs.YtjapdhaimbalkaaDoor

/- Package manifest: how what comes in is read; package sha's tables. -/
--@opt
namespace Go.Proofs.YtjapdhaimbalkaaDoor
set_option linter.unusedSimpArgs false
set_option linter.unusedVariables false
open Go.RowKit Go.Sl Go.ChangeShapes Go.WideShapes Go.ChangeAt

instance opI : Opens Tryd.prog 3 Int := opens_int (by kernel_rfl)
instance opB : Opens Tryd.prog 5 UInt8 := opens_u8 (by kernel_rfl)
instance opBs : Opens Tryd.prog 23 (List UInt8) := opens_list (sl23) (ty5) (by decide)
instance opD : Opens Tryd.prog 32 Dg := opens_array (arr32) (by kernel_rfl) (by kernel_rfl)
instance opDs : Opens Tryd.prog 28 (List Dg) := opens_list (sl28) (ty32) (by decide)

theorem own : ownKnob Tryd.prog.godebug = none := by kernel_rfl

theorem sum_ge {α : Type} [Siz α] {xs : List α} (h : ∀ x ∈ xs, 1 ≤ Siz.siz x) : xs.length ≤ (xs.map Siz.siz).sum := by
  induction xs with
  | nil => simp
  | cons a l ih =>
    have := ih fun x hx => h x (.tail _ hx)
    have := h a (.head _)
    simp only [List.length_cons, List.map_cons, List.sum_cons]; omega

set_option maxRecDepth 20000 in
theorem open_l {α : Type} [Rep α] [Siz α] {T E : TypeId} [Opens Tryd.prog T (List α)] (hT : Tryd.prog.underlying T = some (.slice E)) {H : Type} {enc : TypeId × Value → H} {W : World} {base : Nat} {v : Value} {d : DataW H} {p : List MemPlace} (hv : Value.okWide Tryd.prog W .any base T v) (h : DataW.Trod enc Tryd.prog W 0 (fun _ => true) true T v d p) :
    ∃ xs : List α, RSl (snapOf W) v xs ∧ (xs.map Siz.siz).sum + 1 ≤ Rows.uptoBulk d := by
  obtain ⟨a, n, c, rfl⟩ := okWide_slice hT hv
  obtain ⟨y, ⟨v', e, hy⟩, hs⟩ := open_arg (α := List α) h
  obtain rfl : v' = .slice a n c := by simpa [Value.cells] using e.symm
  exact ⟨y, hy, hs⟩

set_option maxRecDepth 20000 in
theorem open_ds {H : Type} {enc : TypeId × Value → H} {W : World} {base : Nat} {v : Value} {d : DataW H} {p : List MemPlace} (hv : Value.okWide Tryd.prog W .any base 28 v) (h : DataW.Trod enc Tryd.prog W 0 (fun _ => true) true 28 v d p) (hk : Rows.uptoBulk d ≤ 1048576) :
    ∃ xs : List Dg, RSl (snapOf W) v xs ∧ xs.length ≤ 1048576 := by
  obtain ⟨xs, hx, hs⟩ := open_l (α := Dg) Tryd.underlying28 hv h
  have := sum_ge (xs := xs) fun x hx2 => by
    have h16 := hx.dgs x hx2
    have h1 : ∀ l : List UInt8, (l.map Siz.siz).sum = l.length := fun l => by
      induction l with
      | nil => rfl
      | cons a l ih => simp only [List.map_cons, List.sum_cons, List.length_cons, ih]; show 1 + _ = _; omega
    show 1 ≤ (x.l.map Siz.siz).sum
    rw [h1]; omega
  exact ⟨xs, hx, by omega⟩
set_option maxRecDepth 20000 in
theorem open_bs {H : Type} {enc : TypeId × Value → H} {W : World} {base : Nat} {v : Value} {d : DataW H} {p : List MemPlace} (hv : Value.okWide Tryd.prog W .any base 23 v) (h : DataW.Trod enc Tryd.prog W 0 (fun _ => true) true 23 v d p) (hk : Rows.uptoBulk d ≤ 1048576) :
    ∃ xs : List UInt8, RSl (snapOf W) v xs ∧ xs.length ≤ 1048576 := by
  obtain ⟨xs, hx, hs⟩ := open_l (α := UInt8) Tryd.underlying23 hv h
  have := sum_ge (xs := xs) fun x _ => Nat.le_refl _
  exact ⟨xs, hx, by omega⟩
instance opStr : Opens Tryd.prog 9 Str := opens_str (by kernel_rfl)
set_option maxRecDepth 20000 in
theorem open_s {H : Type} {enc : TypeId × Value → H} {W : World} {base : Nat} {v : Value} {d : DataW H} {p : List MemPlace} (hv : Value.okWide Tryd.prog W .any base 9 v) (h : DataW.Trod enc Tryd.prog W 0 (fun _ => true) true 9 v d p) (hk : Rows.uptoBulk d ≤ 1048576) :
    ∃ s : List UInt8, v = .string ⟨s.toArray⟩ ∧ s.length ≤ 1048576 := by
  obtain ⟨s, rfl⟩ := okWide_string Tryd.underlying9 hv
  obtain ⟨y, ⟨e, _⟩, hs⟩ := open_arg (α := Str) h
  have e' : s = ⟨y.b.toArray⟩ := by simpa [Value.cells] using e
  subst e'
  exact ⟨y.b, rfl, by simp only [Siz.siz] at hs; omega⟩
theorem tabC : ∀ ws : List UInt32, (List.map (fun z => Value.int .u32 z) (ws.map fun x => (x.toNat : Int))) = cF u32C ws
  | [] => rfl
  | a :: l => by
    show _ :: _ = _ :: cF u32C l
    rw [← tabC l]
/-- A table of words, as it lies. -/
theorem pt_of_tab {W : World} {name : String} {g : Nat} {n : Nat} {ws : List UInt32} (hg : Tryd.prog.globalNamed name = some g) (hn : ws.length = n)
    (h : Lib.TabIs Tryd.prog W name .u32 (ws.map fun x => (x.toNat : Int))) : Pt (snapOf W) (.pointer (some ⟨g, 0, none⟩)) (⟨ws⟩ : Arr UInt32 n) := by
  unfold Lib.TabIs World.var? at h
  rw [hg] at h
  simp only [Option.bind_some] at h
  split at h
  · rename_i cs T fz hc
    obtain rfl := Option.some.inj h
    refine ⟨g, 0, _, T, fz, rfl, hc, ?_⟩
    have hz : Rep.z (Arr UInt32 n) = n := by show n * 1 = n; omega
    rw [hz, List.drop_zero, List.take_of_length_le (by simp only [List.length_map]; omega)]
    rw [tabC]
    refine ⟨hn, by rw [cF_u32_len]; show ws.length = ws.length * 1; omega, fun j x hx => ?_⟩
    have hj : j < ws.length := (List.getElem?_eq_some_iff.1 hx).1
    have hz2 : Rep.z UInt32 = 1 := rfl
    rw [hz2, Nat.mul_one, cF_u32_get ws j hj, List.getD_eq_getElem?_getD, hx]
    rfl
  · cases h

theorem start_tab : Rows.laid_bootchain_sha_start (H := Unit) = Lib.tabData .u32 (s8Start.l.map fun x => (x.toNat : Int)) := by rfl
theorem cons_tab : Rows.laid_bootchain_sha_constants (H := Unit) = Lib.tabData .u32 (kList.map fun x => (x.toNat : Int)) := by rfl

theorem glob_of {W : World} (h : laidMetH Tryd.prog [("bootchain/sha.constants", Rows.laid_bootchain_sha_constants), ("bootchain/sha.start", Rows.laid_bootchain_sha_start)] W) : Glob (snapOf W) := by
  rw [start_tab, cons_tab] at h
  have h1 : laidMet Tryd.prog [("bootchain/sha.constants", Lib.tabData .u32 (kList.map fun x => (x.toNat : Int))), ("bootchain/sha.start", Lib.tabData .u32 (s8Start.l.map fun x => (x.toNat : Int)))] W := h
  exact ⟨pt_of_tab (by kernel_rfl) rfl (Lib.tabIs_of_head (g := 0) (t := 98) (e := 96) (n := 8) (by kernel_rfl) (by kernel_rfl) (by kernel_rfl) (by kernel_rfl) (by kernel_rfl) (by kernel_rfl) (Go.laidMet.tail h1)),
    pt_of_tab (by kernel_rfl) rfl (Lib.tabIs_of_head (g := 1) (t := 113) (e := 96) (n := 64) (by kernel_rfl) (by kernel_rfl) (by kernel_rfl) (by kernel_rfl) (by kernel_rfl) (by kernel_rfl) h1)⟩

/-- A world for the witness: the settled one, the two tables laid. -/
def layCells (cs : List Value) : Obj → Obj
  | .cells _ t frozen => .cells cs.toArray t frozen
  | o => o
noncomputable def laidWorld (os : Os) (is : Array Value) : World :=
  { World.holding Tryd.prog os ⟨#[], is, []⟩ with heap := ((World.holding Tryd.prog os ⟨#[], is, []⟩).heap.modify 0 (layCells (cF u32C s8Start.l))).modify 1 (layCells (cF u32C kList)) }
end Go.Proofs.YtjapdhaimbalkaaDoor

/- Package directory: how directories and facts that come in are read. -/
namespace Go.Proofs.YtjapdhaimbalkaaDoor
set_option linter.unusedSimpArgs false
set_option linter.unusedVariables false
open Go.RowKit Go.Sl Go.ChangeShapes Go.WideShapes Go.ChangeAt

instance opMF : Opens Tryd.prog 30 MF := opens_struct Tryd.underlying30 (by kernel_rfl)
  (openFs_cons rfl (by kernel_rfl) (ob := openFs_cons rfl (by kernel_rfl) (ob := openFs_cons rfl (by kernel_rfl) (ob := openFs_cons rfl (by kernel_rfl) (ob := openFs_nil)))))
instance opFa : Opens Tryd.prog 34 Fa := opens_struct Tryd.underlying34 (by kernel_rfl)
  (openFs_cons rfl (by kernel_rfl) (ob := openFs_cons rfl (by kernel_rfl) (ob := openFs_cons rfl (by kernel_rfl) (ob := openFs_cons rfl (by kernel_rfl) (ob := openFs_nil)))))
instance opFas : Opens Tryd.prog 22 (List Fa) := opens_list (sl22) (ty34) (by decide)
instance opDir : Opens Tryd.prog 27 Dir := opens_struct Tryd.underlying27 (by kernel_rfl)
  (openFs_cons rfl (by kernel_rfl) (ob := openFs_nil))
set_option maxRecDepth 20000 in
theorem open_dir {H : Type} {enc : TypeId × Value → H} {W : World} {base : Nat} {v : Value} {d : DataW H} {p : List MemPlace} (hv : Value.okWide Tryd.prog W .any base 27 v) (h : DataW.Trod enc Tryd.prog W 0 (fun _ => true) true 27 v d p) :
    ∃ (cs : List Value) (u : Dir), v = .agg cs.toArray ∧ Rep.R (snapOf W) cs u := by
  obtain ⟨cs, rfl, _⟩ := okWide_struct Tryd.underlying27 hv
  obtain ⟨y, hy, _⟩ := open_arg (α := Dir) h
  exact ⟨cs.toList, y, by simp, hy⟩
set_option maxRecDepth 20000 in
theorem open_fa {H : Type} {enc : TypeId × Value → H} {W : World} {base : Nat} {v : Value} {d : DataW H} {p : List MemPlace} (hv : Value.okWide Tryd.prog W .any base 34 v) (h : DataW.Trod enc Tryd.prog W 0 (fun _ => true) true 34 v d p) :
    ∃ (cs : List Value) (u : Fa), v = .agg cs.toArray ∧ Rep.R (snapOf W) cs u := by
  obtain ⟨cs, rfl, _⟩ := okWide_struct Tryd.underlying34 hv
  obtain ⟨y, hy, _⟩ := open_arg (α := Fa) h
  exact ⟨cs.toList, y, by simp, hy⟩
set_option maxRecDepth 20000 in
theorem open_fas {H : Type} {enc : TypeId × Value → H} {W : World} {base : Nat} {v : Value} {d : DataW H} {p : List MemPlace} (hv : Value.okWide Tryd.prog W .any base 22 v) (h : DataW.Trod enc Tryd.prog W 0 (fun _ => true) true 22 v d p) (hk : Rows.uptoBulk d ≤ 1048576) :
    ∃ xs : List Fa, RSl (snapOf W) v xs ∧ xs.length ≤ 1048576 := by
  obtain ⟨xs, hx, hs⟩ := open_l (α := Fa) Tryd.underlying22 hv h
  have := sum_ge (xs := xs) fun x _ => (show 1 ≤ 1 + _ by omega)
  exact ⟨xs, hx, by omega⟩
end Go.Proofs.YtjapdhaimbalkaaDoor

/- The statement DirectoryMerge, walked. -/
--@hgp
--@flat
--@dg
--@ex0
namespace Go.Proofs.YtjapdhaimbalkaaDoor
set_option linter.unusedSimpArgs false
set_option linter.unusedVariables false
open Go.RowKit Go.Sl Go.Srt

theorem fa_in {S : Snap} {cs : List Value} {f : Fa} (h : Rep.R S cs f) (hf : fewF f) : FaOk f := ⟨h.2.1.2, hf.1, mf_ok h.2.2.2.2.2.1, hf.2, h.2.2.2.2.2.2.2.1.1⟩
theorem fas_in {S : Snap} {u : Value} {a : List Fa} (h : RSl S u a) (hf : ∀ f ∈ a, fewF f) : ∀ f ∈ a, FaOk f := by
  intro x hx
  have hf := hf x hx
  obtain ⟨i, hi, rfl⟩ := List.mem_iff_getElem.1 hx
  rcases h with ⟨ad, cap, _, h, _⟩ | ⟨b, o, cap, c, T, fz, _, _, _, _, h⟩
  · subst h; simp at hi
  · exact fa_in (h.at_ i hi) hf
theorem dir_in {S : Snap} {cs : List Value} {a : List Fa} (h : Rep.R S cs ((a, ()) : Dir)) (hf : fewD a = true) : (∀ f ∈ a, FaOk f) ∧ a.length ≤ 30 := by
  obtain ⟨u, rfl, hu⟩ := dir_of h
  exact ⟨fas_in hu (fewD_of hf).2, (fewD_of hf).1⟩
theorem ok_app {a b : List Fa} (oa : ∀ f ∈ a, FaOk f) (ob : ∀ f ∈ b, FaOk f) : ∀ f ∈ a ++ b, FaOk f := fun f hf => (List.mem_append.1 hf).elim (oa f) (ob f)
theorem nrm_ba {a b : List Fa} (oa : ∀ f ∈ a, FaOk f) (ob : ∀ f ∈ b, FaOk f) : nrm (b ++ a) = nrm (a ++ b) :=
  nrm_congr (ok_app ob oa) (ok_app oa ob) fun y _ => by simp only [List.mem_append]; exact Or.comm
theorem nrm_abc {a b c : List Fa} (oa : ∀ f ∈ a, FaOk f) (ob : ∀ f ∈ b, FaOk f) (oc : ∀ f ∈ c, FaOk f) : nrm (a ++ nrm (b ++ c)) = nrm (nrm (a ++ b) ++ c) :=
  nrm_congr (ok_app oa (nrm_ok (ok_app ob oc))) (ok_app (nrm_ok (ok_app oa ob)) oc) fun y hy => by
    simp only [List.mem_append, nrm_mem (ok_app ob oc), nrm_mem (ok_app oa ob), hy, and_true, or_assoc]
theorem nrm_aa {a : List Fa} (oa : ∀ f ∈ a, FaOk f) : nrm (a ++ a) = nrm (a ++ []) :=
  nrm_congr (ok_app oa oa) (ok_app oa (by simp)) fun y _ => by simp
theorem nrm_nn {a : List Fa} (oa : ∀ f ∈ a, FaOk f) : nrm (nrm (a ++ []) ++ nrm (a ++ [])) = nrm (a ++ []) := by
  have o1 := ok_app oa (b := []) (by simp)
  exact nrm_congr (ok_app (nrm_ok o1) (nrm_ok o1)) o1 fun y hy => by
    simp only [List.mem_append, nrm_mem o1, hy, and_true, or_self]
theorem nrm_abb {a b : List Fa} (oa : ∀ f ∈ a, FaOk f) (ob : ∀ f ∈ b, FaOk f) : nrm (nrm (a ++ b) ++ b) = nrm (a ++ b) := by
  have o1 := ok_app oa ob
  refine nrm_congr (ok_app (nrm_ok o1) ob) o1 fun y hy => ?_
  simp only [List.mem_append, nrm_mem o1, hy, and_true]
  constructor
  · rintro ((h | h) | h)
    · exact .inl h
    · exact .inr h
    · exact .inr h
  · exact .inl

set_option maxRecDepth 60000 in
set_option maxHeartbeats 4000000 in
theorem dmerge_c {S M} (w : World) (hst : St S M w) (hG : Glob S) (c1 c2 c3 : List Value) (a b c : List Fa) (h1 : Rep.R S c1 ((a, ()) : Dir)) (h2 : Rep.R S c2 ((b, ()) : Dir)) (h3 : Rep.R S c3 ((c, ()) : Dir)) :
    Rets Tryd.prog 5 [.agg c1.toArray, .agg c2.toArray, .agg c3.toArray] w fun v w' => v = .bool true ∧ St S M w' := by
  unfold Rets
  obtain ⟨z1, hz1⟩ : ∃ z, fewD a = z := ⟨_, rfl⟩
  obtain ⟨z2, hz2⟩ : ∃ z, fewD b = z := ⟨_, rfl⟩
  obtain ⟨z3, hz3⟩ : ∃ z, fewD c = z := ⟨_, rfl⟩
  have cW1 := fun {S : Snap} {M : List Chunk} (w : World) (hst : St S M w) (cs : List Value) (h : Rep.R S cs ((a, ()) : Dir)) => (wfew_c w hst cs a h).eq hz1
  have cW2 := fun {S : Snap} {M : List Chunk} (w : World) (hst : St S M w) (cs : List Value) (h : Rep.R S cs ((b, ()) : Dir)) => (wfew_c w hst cs b h).eq hz2
  have cW3 := fun {S : Snap} {M : List Chunk} (w : World) (hst : St S M w) (cs : List Value) (h : Rep.R S cs ((c, ()) : Dir)) => (wfew_c w hst cs c h).eq hz3
  by_cases hz : z1 = true ∧ z2 = true ∧ z3 = true
  · obtain ⟨rfl, rfl, rfl⟩ := hz
    obtain ⟨oa, la⟩ := dir_in h1 hz1
    obtain ⟨ob, lb⟩ := dir_in h2 hz2
    obtain ⟨oc, lc⟩ := dir_in h3 hz3
    clear hz1 hz2 hz3
    have on : ∀ f ∈ ([] : List Fa), FaOk f := by simp
    have ln : ([] : List Fa).length = 0 := rfl
    have HBA0 := nrm_ba oa ob
    have HABC20 := nrm_abc oa ob oc
    have HAA0 := nrm_aa oa
    have HNN0 := nrm_nn oa
    have HABB0 := nrm_abb oa ob
    have oAB := nrm_ok (ok_app oa ob)
    have oBC := nrm_ok (ok_app ob oc)
    have oN := nrm_ok (ok_app oa on)
    have oABC := nrm_ok (ok_app oAB oc)
    have lAB := nrm_len (fs := a ++ b)
    have lBC := nrm_len (fs := b ++ c)
    have lN := nrm_len (fs := a ++ [])
    have lABC := nrm_len (fs := nrm (a ++ b) ++ c)
    rw [List.length_append] at lAB lBC lN lABC
    obtain ⟨ABC, gABC⟩ : ∃ F, nrm (nrm (a ++ b) ++ c) = F := ⟨_, rfl⟩
    obtain ⟨AB, gAB⟩ : ∃ F, nrm (a ++ b) = F := ⟨_, rfl⟩
    obtain ⟨BC, gBC⟩ : ∃ F, nrm (b ++ c) = F := ⟨_, rfl⟩
    obtain ⟨N, gN⟩ : ∃ F, nrm (a ++ []) = F := ⟨_, rfl⟩
    rw [gABC] at HABC20 oABC lABC
    rw [gAB] at HBA0 gABC HABB0 oAB lAB lABC
    rw [gBC] at HABC20 oBC lBC
    rw [gN] at HAA0 HNN0 oN lN
    have HAB := Lib.hid gAB
    have HBA := Lib.hid HBA0
    have HABC := Lib.hid gABC
    have HBC := Lib.hid gBC
    have HABC2 := Lib.hid HABC20
    have HN := Lib.hid gN
    have HAA := Lib.hid HAA0
    have HNN := Lib.hid HNN0
    have HABB := Lib.hid HABB0
    clear gAB HBA0 gABC gBC HABC20 gN HAA0 HNN0 HABB0
    have mAB : AB.length ≤ 1000000 := by omega
    have mABC : ABC.length ≤ 1000000 := by omega
    have mN : N.length ≤ 1000000 := by omega
    go_enter Tryd.func5, Tryd.ntmps5
    repeat' ((fail_if_success (with_reducible show Code.wp _ (Code.region 1 _ _) _ _ _)); first | ((fail_if_success (go_big_may)); (go_step)) | (((((refine s_box hst evX rfl ?_; clear hst; intro bx w hst)))) <;> (try refine nX ?_) <;> (try replace hst := nH hst)))
    obtain ⟨S1, hS1, hst1, hpc⟩ := pt_box (α := Dir) (x := (c, ())) hst h3 (Rep.len h3)
    clear hst
    obtain ⟨S2, hS2, hst2, hpb⟩ := pt_box (α := Dir) (x := (b, ())) hst1 (Rep.mono hS1 h2) (Rep.len h2)
    clear hst1
    obtain ⟨S3, hS3, hst, hpa⟩ := pt_box (α := Dir) (x := (a, ())) hst2 (Rep.mono (hS1.trans hS2) h1) (Rep.len h1)
    clear hst2
    replace hpc := hpc.mono (hS2.trans hS3)
    replace hpb := hpb.mono hS3
    have hle : S.Le S3 := (hS1.trans hS2).trans hS3
    have hG3 := hG.mono hle
    clear hS1 hS2 hS3 h1 h2 h3
    repeat' ((fail_if_success (with_reducible show Code.wp _ (Code.region 2 _ _) _ _ _)); first | (((with_reducible refine Sl.k_call ?_; ((refine s_call (dsanity_c _ hst hG3) inX rfl ?_; clear hst; rintro v w ⟨rfl, hst⟩)))) <;> (try refine nX ?_) <;> (try replace hst := nH hst)) | ((fail_if_success (go_big_may)); (go_step)))
    repeat' ((fail_if_success (with_reducible show Code.wp _ (Code.region 4 _ _) _ _ _)); first | ((first | (with_reducible (refine Sl.k_load ?_; (first | (refine s_ex hst (qt_ldp (α := Dir) (y := (a, ())) evX hpa inX) ?_; rintro v55 ⟨ca, rfl, hca⟩) | (refine s_ex hst (qt_ldp (α := Dir) (y := (b, ())) evX hpb inX) ?_; rintro v56 ⟨cb, rfl, hcb⟩) | (refine s_ex hst (qt_ldp (α := Dir) (y := (c, ())) evX hpc inX) ?_; rintro v57 ⟨cc, rfl, hcc⟩)))) | (with_reducible refine Sl.k_guard ?_; ((refine Sl.guard_yes rfl ?_)))) <;> (try refine nX ?_)) | (((with_reducible refine Sl.k_call ?_; (first | (refine s_call (cW1 _ hst ca hca) inX rfl ?_; clear hst; rintro v w ⟨rfl, hst⟩) | (refine s_call (cW2 _ hst cb hcb) inX rfl ?_; clear hst; rintro v w ⟨rfl, hst⟩) | (refine s_call (cW3 _ hst cc hcc) inX rfl ?_; clear hst; rintro v w ⟨rfl, hst⟩)))) <;> (try refine nX ?_) <;> (try replace hst := nH hst)) | ((fail_if_success (go_big_may)); (go_step)) | (with_reducible refine Sl.gate rfl ?_; (go_step)))
    repeat' (first | (((with_reducible (refine Sl.k_load ?_; (first | (refine s_ex hst (qt_ldp (α := Dir) (y := (a, ())) evX hpa inX) ?_; rintro v55 ⟨ca, rfl, hca⟩) | (refine s_ex hst (qt_ldp (α := Dir) (y := (b, ())) evX hpb inX) ?_; rintro v56 ⟨cb, rfl, hcb⟩))))) <;> (try refine nX ?_)) | (((with_reducible refine Sl.k_call ?_; ((refine s_call (wmerge_c _ hst ca cb a b AB hca hcb oa ob (by omega) HAB.out) inX rfl ?_; clear hst; rintro v w ⟨S4, c4, hS4, rfl, hR4, hst⟩)))) <;> (try refine nX ?_) <;> (try replace hst := nH hst)) | ((fail_if_success (go_big_may)); (go_step)) | (((((refine s_alloc hst inX ?_; clear hst; intro bk w hst)))) <;> (try refine nX ?_) <;> (try replace hst := nH hst)))
    refine s_stW0 hst rfl BoxIn.h inX rfl hR4 rfl ?_
    clear hst; intro w hst
    (try refine nX ?_)
    (try replace hst := nH hst)
    repeat' ((fail_if_success (with_reducible show Code.wp _ (Code.region 5 _ _) _ _ _)); ((fail_if_success (go_big_may)); (go_step)))
    obtain ⟨T4, hT4, hst0, hpab⟩ := pt_box (α := Dir) (x := (AB, ())) hst hR4 (Rep.len hR4)
    clear hst
    have hst := hst0
    clear hst0
    replace hle := (hle.trans hS4).trans hT4
    replace hpa := hpa.mono (hS4.trans hT4)
    replace hpb := hpb.mono (hS4.trans hT4)
    replace hpc := hpc.mono (hS4.trans hT4)
    clear hS4 hT4 hR4 hca hcb hcc
    repeat' (first | (((with_reducible (refine Sl.k_load ?_; ((refine s_ex hst (qt_ldp (α := Dir) (y := (a, ())) evX hpa inX) ?_; rintro v55 ⟨ca, rfl, hca⟩))))) <;> (try refine nX ?_)) | (((with_reducible refine Sl.k_call ?_; ((refine s_call (wmerge_c _ hst ca [.slice none 0 0] a [] N hca nil_dir oa on (by omega) HN.out) inX rfl ?_; clear hst; rintro v w ⟨S5, c5, hS5, rfl, hR5, hst⟩)))) <;> (try refine nX ?_) <;> (try replace hst := nH hst)) | ((fail_if_success (go_big_may)); (go_step)) | (with_reducible refine Sl.gate rfl ?_; (go_step)) | (((((refine s_alloc hst inX ?_; clear hst; intro bk w hst)))) <;> (try refine nX ?_) <;> (try replace hst := nH hst)))
    refine s_stW0 hst rfl BoxIn.h inX rfl hR5 rfl ?_
    clear hst; intro w hst
    (try refine nX ?_)
    (try replace hst := nH hst)
    repeat' ((fail_if_success (with_reducible show Code.wp _ (Code.region 6 _ _) _ _ _)); ((fail_if_success (go_big_may)); (go_step)))
    obtain ⟨T5, hT5, hst0, hpn⟩ := pt_box (α := Dir) (x := (N, ())) hst hR5 (Rep.len hR5)
    clear hst
    have hst := hst0
    clear hst0
    replace hle := (hle.trans hS5).trans hT5
    replace hpa := hpa.mono (hS5.trans hT5)
    replace hpb := hpb.mono (hS5.trans hT5)
    replace hpc := hpc.mono (hS5.trans hT5)
    replace hpab := hpab.mono (hS5.trans hT5)
    clear hS5 hT5 hR5 hca
    refine ps_begin hst (by kernel_rfl) ?_; clear hst; intro w hst; have hSS := le_of hst; (try refine nX ?_)
    (refine ps_take 0 (by repeat (first | exact panicQ_body | refine panicQ_then ?_)) rfl (by kernel_rfl) (by kernel_rfl) (by kernel_rfl) rfl (St.cls hSS hst) (by exact qt_move evX) ?_) <;> (try refine nX ?_)
    (refine ps_take 1 (by repeat (first | exact panicQ_body | refine panicQ_then ?_)) rfl (by kernel_rfl) (by kernel_rfl) (by kernel_rfl) rfl (St.cls hSS hst) (by exact qt_move evX) ?_) <;> (try refine nX ?_)
    (((refine ps_takex 2 (by repeat (first | exact panicQ_body | refine panicQ_then ?_)) rfl (by kernel_rfl) (by kernel_rfl) (by kernel_rfl) rfl (St.cls hSS hst) (qt_ldp (α := Dir) (y := (AB, ())) evX hpab inX ) ?_; rintro  v2 ⟨c2, rfl, hc2⟩))) <;> (try refine nX ?_)
    (((refine ps_takex 3 (by repeat (first | exact panicQ_body | refine panicQ_then ?_)) rfl (by kernel_rfl) (by kernel_rfl) (by kernel_rfl) rfl (St.cls hSS hst) (qt_ldp (α := Dir) (y := (b, ())) evX hpb inX ) ?_; rintro  v3 ⟨c3, rfl, hc3⟩))) <;> (try refine nX ?_)
    (((refine ps_takex 4 (by repeat (first | exact panicQ_body | refine panicQ_then ?_)) rfl (by kernel_rfl) (by kernel_rfl) (by kernel_rfl) rfl (St.cls hSS hst) (qt_ldp (α := Dir) (y := (a, ())) evX hpa inX ) ?_; rintro  v4 ⟨c4, rfl, hc4⟩))) <;> (try refine nX ?_)
    refine ps_one 5 rfl (by kernel_rfl) ?_; intro K hK; refine Sl.guard_yes rfl ?_; refine s_call (wmerge_c w hst c3 c4 b a AB (Rep.mono hSS hc3) (Rep.mono hSS hc4) ob oa (by omega) HBA.out) inX rfl ?_; clear hst; rintro v5 w ⟨S5, k5, hS5, rfl, hR5, hst⟩; (try refine nX ?_); (try replace hst := nH hst); replace hSS := hSS.trans hS5; refine ps_next hK (St.cls hSS hst) ?_; clear hK K; (try refine nX ?_)
    refine ps_one 6 rfl (by kernel_rfl) ?_; intro K hK; refine Sl.guard_yes rfl ?_; refine s_call (wsame_yes w hst c2 k5 AB (Rep.mono hSS hc2) hR5 oAB mAB) inX rfl ?_; clear hst; rintro v6 w ⟨rfl, hst⟩; (try refine nX ?_); (try replace hst := nH hst); refine ps_next hK (St.cls hSS hst) ?_; clear hK K; (try refine nX ?_)
    (refine ps_take 7 (by repeat (first | exact panicQ_body | refine panicQ_then ?_)) rfl (by kernel_rfl) (by kernel_rfl) (by kernel_rfl) rfl (St.cls hSS hst) (by exact qt_pick_t rfl evX) ?_) <;> (try refine nX ?_)
    (refine ps_take 8 (by repeat (first | exact panicQ_body | refine panicQ_then ?_)) rfl (by kernel_rfl) (by kernel_rfl) (by kernel_rfl) rfl (St.cls hSS hst) (by exact qt_move evX) ?_) <;> (try refine nX ?_)
    (((refine ps_takex 9 (by repeat (first | exact panicQ_body | refine panicQ_then ?_)) rfl (by kernel_rfl) (by kernel_rfl) (by kernel_rfl) rfl (St.cls hSS hst) (qt_ldp (α := Dir) (y := (AB, ())) evX hpab inX ) ?_; rintro  v9 ⟨c9, rfl, hc9⟩))) <;> (try refine nX ?_)
    (((refine ps_takex 10 (by repeat (first | exact panicQ_body | refine panicQ_then ?_)) rfl (by kernel_rfl) (by kernel_rfl) (by kernel_rfl) rfl (St.cls hSS hst) (qt_ldp (α := Dir) (y := (c, ())) evX hpc inX ) ?_; rintro  v10 ⟨c10, rfl, hc10⟩))) <;> (try refine nX ?_)
    (((refine ps_takex 12 (by repeat (first | exact panicQ_body | refine panicQ_then ?_)) rfl (by kernel_rfl) (by kernel_rfl) (by kernel_rfl) rfl (St.cls hSS hst) (qt_ldp (α := Dir) (y := (a, ())) evX hpa inX ) ?_; rintro  v12 ⟨c12, rfl, hc12⟩))) <;> (try refine nX ?_)
    (((refine ps_takex 13 (by repeat (first | exact panicQ_body | refine panicQ_then ?_)) rfl (by kernel_rfl) (by kernel_rfl) (by kernel_rfl) rfl (St.cls hSS hst) (qt_ldp (α := Dir) (y := (b, ())) evX hpb inX ) ?_; rintro  v13 ⟨c13, rfl, hc13⟩))) <;> (try refine nX ?_)
    (((refine ps_takex 14 (by repeat (first | exact panicQ_body | refine panicQ_then ?_)) rfl (by kernel_rfl) (by kernel_rfl) (by kernel_rfl) rfl (St.cls hSS hst) (qt_ldp (α := Dir) (y := (c, ())) evX hpc inX ) ?_; rintro  v14 ⟨c14, rfl, hc14⟩))) <;> (try refine nX ?_)
    refine ps_one 11 rfl (by kernel_rfl) ?_; intro K hK; refine Sl.guard_yes rfl ?_; refine s_call (wmerge_c w hst c9 c10 AB c ABC (Rep.mono hSS hc9) (Rep.mono hSS hc10) oAB oc (by omega) HABC.out) inX rfl ?_; clear hst; rintro v11 w ⟨S11, k11, hS11, rfl, hR11, hst⟩; (try refine nX ?_); (try replace hst := nH hst); replace hSS := hSS.trans hS11; refine ps_next hK (St.cls hSS hst) ?_; clear hK K; (try refine nX ?_)
    refine ps_one 15 rfl (by kernel_rfl) ?_; intro K hK; refine Sl.guard_yes rfl ?_; refine s_call (wmerge_c w hst c13 c14 b c BC (Rep.mono hSS hc13) (Rep.mono hSS hc14) ob oc (by omega) HBC.out) inX rfl ?_; clear hst; rintro v15 w ⟨S15, k15, hS15, rfl, hR15, hst⟩; (try refine nX ?_); (try replace hst := nH hst); replace hSS := hSS.trans hS15; refine ps_next hK (St.cls hSS hst) ?_; clear hK K; (try refine nX ?_)
    refine ps_one 16 rfl (by kernel_rfl) ?_; intro K hK; refine Sl.guard_yes rfl ?_; refine s_call (wmerge_c w hst c12 k15 a BC ABC (Rep.mono hSS hc12) hR15 oa oBC (by omega) HABC2.out) inX rfl ?_; clear hst; rintro v16 w ⟨S16, k16, hS16, rfl, hR16, hst⟩; (try refine nX ?_); (try replace hst := nH hst); replace hSS := hSS.trans hS16; refine ps_next hK (St.cls hSS hst) ?_; clear hK K; (try refine nX ?_)
    refine ps_one 17 rfl (by kernel_rfl) ?_; intro K hK; refine Sl.guard_yes rfl ?_; refine s_call (wsame_yes w hst k11 k16 ABC (Rep.mono (hS15.trans hS16) hR11) hR16 oABC mABC) inX rfl ?_; clear hst; rintro v17 w ⟨rfl, hst⟩; (try refine nX ?_); (try replace hst := nH hst); refine ps_next hK (St.cls hSS hst) ?_; clear hK K; (try refine nX ?_)
    (refine ps_take 18 (by repeat (first | exact panicQ_body | refine panicQ_then ?_)) rfl (by kernel_rfl) (by kernel_rfl) (by kernel_rfl) rfl (St.cls hSS hst) (by exact qt_pick_t rfl evX) ?_) <;> (try refine nX ?_)
    (refine ps_take 19 (by repeat (first | exact panicQ_body | refine panicQ_then ?_)) rfl (by kernel_rfl) (by kernel_rfl) (by kernel_rfl) rfl (St.cls hSS hst) (by exact qt_move evX) ?_) <;> (try refine nX ?_)
    (((refine ps_takex 20 (by repeat (first | exact panicQ_body | refine panicQ_then ?_)) rfl (by kernel_rfl) (by kernel_rfl) (by kernel_rfl) rfl (St.cls hSS hst) (qt_ldp (α := Dir) (y := (a, ())) evX hpa inX ) ?_; rintro  v20 ⟨c20, rfl, hc20⟩))) <;> (try refine nX ?_)
    (((refine ps_takex 21 (by repeat (first | exact panicQ_body | refine panicQ_then ?_)) rfl (by kernel_rfl) (by kernel_rfl) (by kernel_rfl) rfl (St.cls hSS hst) (qt_ldp (α := Dir) (y := (a, ())) evX hpa inX ) ?_; rintro  v21 ⟨c21, rfl, hc21⟩))) <;> (try refine nX ?_)
    (((refine ps_takex 23 (by repeat (first | exact panicQ_body | refine panicQ_then ?_)) rfl (by kernel_rfl) (by kernel_rfl) (by kernel_rfl) rfl (St.cls hSS hst) (qt_ldp (α := Dir) (y := (N, ())) evX hpn inX ) ?_; rintro  v23 ⟨c23, rfl, hc23⟩))) <;> (try refine nX ?_)
    refine ps_one 22 rfl (by kernel_rfl) ?_; intro K hK; refine Sl.guard_yes rfl ?_; refine s_call (wmerge_c w hst c20 c21 a a N (Rep.mono hSS hc20) (Rep.mono hSS hc21) oa oa (by omega) HAA.out) inX rfl ?_; clear hst; rintro v22 w ⟨S22, k22, hS22, rfl, hR22, hst⟩; (try refine nX ?_); (try replace hst := nH hst); replace hSS := hSS.trans hS22; refine ps_next hK (St.cls hSS hst) ?_; clear hK K; (try refine nX ?_)
    refine ps_one 24 rfl (by kernel_rfl) ?_; intro K hK; refine Sl.guard_yes rfl ?_; refine s_call (wsame_yes w hst k22 c23 N hR22 (Rep.mono hSS hc23) oN mN) inX rfl ?_; clear hst; rintro v24 w ⟨rfl, hst⟩; (try refine nX ?_); (try replace hst := nH hst); refine ps_next hK (St.cls hSS hst) ?_; clear hK K; (try refine nX ?_)
    (refine ps_take 25 (by repeat (first | exact panicQ_body | refine panicQ_then ?_)) rfl (by kernel_rfl) (by kernel_rfl) (by kernel_rfl) rfl (St.cls hSS hst) (by exact qt_pick_t rfl evX) ?_) <;> (try refine nX ?_)
    (refine ps_take 26 (by repeat (first | exact panicQ_body | refine panicQ_then ?_)) rfl (by kernel_rfl) (by kernel_rfl) (by kernel_rfl) rfl (St.cls hSS hst) (by exact qt_move evX) ?_) <;> (try refine nX ?_)
    (((refine ps_takex 27 (by repeat (first | exact panicQ_body | refine panicQ_then ?_)) rfl (by kernel_rfl) (by kernel_rfl) (by kernel_rfl) rfl (St.cls hSS hst) (qt_ldp (α := Dir) (y := (N, ())) evX hpn inX ) ?_; rintro  v27 ⟨c27, rfl, hc27⟩))) <;> (try refine nX ?_)
    (((refine ps_takex 28 (by repeat (first | exact panicQ_body | refine panicQ_then ?_)) rfl (by kernel_rfl) (by kernel_rfl) (by kernel_rfl) rfl (St.cls hSS hst) (qt_ldp (α := Dir) (y := (N, ())) evX hpn inX ) ?_; rintro  v28 ⟨c28, rfl, hc28⟩))) <;> (try refine nX ?_)
    (((refine ps_takex 30 (by repeat (first | exact panicQ_body | refine panicQ_then ?_)) rfl (by kernel_rfl) (by kernel_rfl) (by kernel_rfl) rfl (St.cls hSS hst) (qt_ldp (α := Dir) (y := (N, ())) evX hpn inX ) ?_; rintro  v30 ⟨c30, rfl, hc30⟩))) <;> (try refine nX ?_)
    refine ps_one 29 rfl (by kernel_rfl) ?_; intro K hK; refine Sl.guard_yes rfl ?_; refine s_call (wmerge_c w hst c27 c28 N N N (Rep.mono hSS hc27) (Rep.mono hSS hc28) oN oN (by omega) HNN.out) inX rfl ?_; clear hst; rintro v29 w ⟨S29, k29, hS29, rfl, hR29, hst⟩; (try refine nX ?_); (try replace hst := nH hst); replace hSS := hSS.trans hS29; refine ps_next hK (St.cls hSS hst) ?_; clear hK K; (try refine nX ?_)
    refine ps_one 31 rfl (by kernel_rfl) ?_; intro K hK; refine Sl.guard_yes rfl ?_; refine s_call (wsame_yes w hst k29 c30 N hR29 (Rep.mono hSS hc30) oN mN) inX rfl ?_; clear hst; rintro v31 w ⟨rfl, hst⟩; (try refine nX ?_); (try replace hst := nH hst); refine ps_next hK (St.cls hSS hst) ?_; clear hK K; (try refine nX ?_)
    (refine ps_take 32 (by repeat (first | exact panicQ_body | refine panicQ_then ?_)) rfl (by kernel_rfl) (by kernel_rfl) (by kernel_rfl) rfl (St.cls hSS hst) (by exact qt_pick_t rfl evX) ?_) <;> (try refine nX ?_)
    (refine ps_take 33 (by repeat (first | exact panicQ_body | refine panicQ_then ?_)) rfl (by kernel_rfl) (by kernel_rfl) (by kernel_rfl) rfl (St.cls hSS hst) (by exact qt_move evX) ?_) <;> (try refine nX ?_)
    (((refine ps_takex 34 (by repeat (first | exact panicQ_body | refine panicQ_then ?_)) rfl (by kernel_rfl) (by kernel_rfl) (by kernel_rfl) rfl (St.cls hSS hst) (qt_ldp (α := Dir) (y := (AB, ())) evX hpab inX ) ?_; rintro  v34 ⟨c34, rfl, hc34⟩))) <;> (try refine nX ?_)
    (((refine ps_takex 35 (by repeat (first | exact panicQ_body | refine panicQ_then ?_)) rfl (by kernel_rfl) (by kernel_rfl) (by kernel_rfl) rfl (St.cls hSS hst) (qt_ldp (α := Dir) (y := (b, ())) evX hpb inX ) ?_; rintro  v35 ⟨c35, rfl, hc35⟩))) <;> (try refine nX ?_)
    (((refine ps_takex 37 (by repeat (first | exact panicQ_body | refine panicQ_then ?_)) rfl (by kernel_rfl) (by kernel_rfl) (by kernel_rfl) rfl (St.cls hSS hst) (qt_ldp (α := Dir) (y := (AB, ())) evX hpab inX ) ?_; rintro  v37 ⟨c37, rfl, hc37⟩))) <;> (try refine nX ?_)
    refine ps_one 36 rfl (by kernel_rfl) ?_; intro K hK; refine Sl.guard_yes rfl ?_; refine s_call (wmerge_c w hst c34 c35 AB b AB (Rep.mono hSS hc34) (Rep.mono hSS hc35) oAB ob (by omega) HABB.out) inX rfl ?_; clear hst; rintro v36 w ⟨S36, k36, hS36, rfl, hR36, hst⟩; (try refine nX ?_); (try replace hst := nH hst); replace hSS := hSS.trans hS36; refine ps_next hK (St.cls hSS hst) ?_; clear hK K; (try refine nX ?_)
    refine ps_one 38 rfl (by kernel_rfl) ?_; intro K hK; refine Sl.guard_yes rfl ?_; refine s_call (wsame_yes w hst k36 c37 AB hR36 (Rep.mono hSS hc37) oAB mAB) inX rfl ?_; clear hst; rintro v38 w ⟨rfl, hst⟩; (try refine nX ?_); (try replace hst := nH hst); refine ps_next hK (St.cls hSS hst) ?_; clear hK K; (try refine nX ?_)
    (refine ps_take 39 (by repeat (first | exact panicQ_body | refine panicQ_then ?_)) rfl (by kernel_rfl) (by kernel_rfl) (by kernel_rfl) rfl (St.cls hSS hst) (by exact qt_pick_t rfl evX) ?_) <;> (try refine nX ?_)
    (refine ps_take 40 (by repeat (first | exact panicQ_body | refine panicQ_then ?_)) rfl (by kernel_rfl) (by kernel_rfl) (by kernel_rfl) rfl (St.cls hSS hst) (by exact qt_assign evX) ?_) <;> (try refine nX ?_)
    refine ps_done (by kernel_rfl) ?_
    repeat' (((fail_if_success (go_big_may)); (go_step)))
    go_ret
    exact ⟨_, rfl, rfl, St.weaken (hle.trans hSS) hst⟩
  · have hz : z1 = false ∨ (z1 = true ∧ z2 = false) ∨ (z1 = true ∧ z2 = true ∧ z3 = false) := by
      revert hz; cases z1 <;> cases z2 <;> cases z3 <;> simp
    clear hz1 hz2 hz3
    rcases hz with rfl | ⟨rfl, rfl⟩ | ⟨rfl, rfl, rfl⟩
    all_goals
      go_enter Tryd.func5, Tryd.ntmps5
      repeat' ((fail_if_success (with_reducible show Code.wp _ (Code.region 1 _ _) _ _ _)); first | ((fail_if_success (go_big_may)); (go_step)) | (((((refine s_box hst evX rfl ?_; clear hst; intro bx w hst)))) <;> (try refine nX ?_) <;> (try replace hst := nH hst)))
      obtain ⟨S1, hS1, hst1, hpc⟩ := pt_box (α := Dir) (x := (c, ())) hst h3 (Rep.len h3)
      clear hst
      obtain ⟨S2, hS2, hst2, hpb⟩ := pt_box (α := Dir) (x := (b, ())) hst1 (Rep.mono hS1 h2) (Rep.len h2)
      clear hst1
      obtain ⟨S3, hS3, hst, hpa⟩ := pt_box (α := Dir) (x := (a, ())) hst2 (Rep.mono (hS1.trans hS2) h1) (Rep.len h1)
      clear hst2
      replace hpc := hpc.mono (hS2.trans hS3)
      replace hpb := hpb.mono hS3
      have hle : S.Le S3 := (hS1.trans hS2).trans hS3
      have hG3 := hG.mono hle
      clear hS1 hS2 hS3 h1 h2 h3
      repeat' ((fail_if_success (with_reducible show Code.wp _ (Code.region 2 _ _) _ _ _)); first | (((with_reducible refine Sl.k_call ?_; ((refine s_call (dsanity_c _ hst hG3) inX rfl ?_; clear hst; rintro v w ⟨rfl, hst⟩)))) <;> (try refine nX ?_) <;> (try replace hst := nH hst)) | ((fail_if_success (go_big_may)); (go_step)))
      repeat' (first | go_skip | ((first | (with_reducible (refine Sl.k_load ?_; (first | (refine s_ex hst (qt_ldp (α := Dir) (y := (a, ())) evX hpa inX) ?_; rintro v55 ⟨ca, rfl, hca⟩) | (refine s_ex hst (qt_ldp (α := Dir) (y := (b, ())) evX hpb inX) ?_; rintro v56 ⟨cb, rfl, hcb⟩) | (refine s_ex hst (qt_ldp (α := Dir) (y := (c, ())) evX hpc inX) ?_; rintro v57 ⟨cc, rfl, hcc⟩)))) | (with_reducible refine Sl.k_guard ?_; ((refine Sl.guard_yes rfl ?_)))) <;> (try refine nX ?_)) | (((with_reducible refine Sl.k_call ?_; (first | (refine s_call (cW1 _ hst ca hca) inX rfl ?_; clear hst; rintro v w ⟨rfl, hst⟩) | (refine s_call (cW2 _ hst cb hcb) inX rfl ?_; clear hst; rintro v w ⟨rfl, hst⟩) | (refine s_call (cW3 _ hst cc hcc) inX rfl ?_; clear hst; rintro v w ⟨rfl, hst⟩)))) <;> (try refine nX ?_) <;> (try replace hst := nH hst)) | ((fail_if_success (go_big_may)); (go_step)) | (with_reducible refine Sl.gate rfl ?_; (go_step)))
      go_ret
      exact ⟨_, rfl, rfl, St.weaken hle hst⟩
theorem dmergeK_c {S M} (w : World) (hst : St S M w) (hG : Glob S) (c1 : List Value) (a : Dir) (h1 : Rep.R S c1 a) (c2 : List Value) (b : Dir) (h2 : Rep.R S c2 b) (c3 : List Value) (c : Dir) (h3 : Rep.R S c3 c) :
    Rets Tryd.prog 5 [.agg c1.toArray, .agg c2.toArray, .agg c3.toArray] w fun v w' => v = .bool true ∧ St S M w' := by
  obtain ⟨a, ⟨⟩⟩ := a
  obtain ⟨b, ⟨⟩⟩ := b
  obtain ⟨c, ⟨⟩⟩ := c
  exact dmerge_c w hst hG c1 c2 c3 a b c h1 h2 h3
end Go.Proofs.YtjapdhaimbalkaaDoor
