/- The statement ManifestDetectsLength: every proper prefix of the encoding of a bundle or of a rotation yields ErrTruncated, and the encoding followed by other bytes yields ErrEncoding. Conditions: none beyond those of the statement itself. -/
import Derived.Laws.Strings2
import Derived.Laws.Slices
import Derived.Test.YtlimhgamebnfeaaDoorBb
import Derived.Test.YtlimhgamebnfeaaDoorBi
import Derived.Test.YtlimhgamebnfeaaDoorBh

/- The statement ManifestDetectsLength, walked. -/
--@u32
--@hgp
--@flat
--@dg
--@ex0
namespace Go.Proofs.YtlimhgamebnfeaaDoor
set_option linter.unusedSimpArgs false
set_option linter.unusedVariables false
open Go.RowKit Go.Sl

instance repBU3 : Rep BU := inferInstance
instance repRO3 : Rep RO := inferInstance
/-- A number of two bytes, as it lies. -/
structure W16 where
  n : Nat
instance repW16 : Rep W16 where
  z := 1
  agg := false
  R _ cs x := cs = [.int .u16 (x.n : Int)] ∧ x.n ≤ 65535
  mono _ h := h
  len h := by rw [h.1]; rfl
  one h := by rw [h.1]; intro u hu; simp at hu; subst hu; rfl
  z1 _ := rfl
abbrev DIn := BU × RO × W16 × Str × Unit
theorem encBU_pos (u : BU) : 0 < (encBU u).length := by
  have := encI_pos u.1.1
  unfold encBU encMF
  simp only [List.length_append]; omega
theorem encRO_pos (r : RO) : 0 < (encRO r).length := by
  have := encI_pos r.1.1
  unfold encRO encMF
  simp only [List.length_append]; omega
theorem qt_ldp_w16 {P : Program} {S : Snap} {M : List Chunk} {l : List Value} {T : TypeId} {x : Operand} {zero : List Value} {bb : Nat} {p : Value} {y : W16} (hx : evF l x = p) (hp : Pt S p y) (hT : Ty P T false 1 zero bb) :
    ∃ v, v = .int .u16 (y.n : Int) ∧ Qt P l (.load T x) S M v := by
  obtain ⟨v, ⟨cl, rfl, hcl⟩, q⟩ := qt_ldp (P := P) (M := M) hx hp hT
  obtain ⟨rfl, _⟩ := hcl
  exact ⟨_, rfl, q⟩
theorem qt_takeS {P : Program} {S : Snap} {M : List Chunk} {l : List Value} {T : TypeId} {x y : Operand} {b : List UInt8} {k : IntKind} {i : Nat} {j : Int} (hx : evF l x = StrV b) (hy : evF l y = .int k j) (hj : j = (i : Nat)) (hT : StrT P T) (hi : i ≤ b.length) : Qt P l (.slice T x none (some y) none) S M (StrV (b.take i)) := fun dst ty pos af w _ => by
  subst hj
  have h := run_slice_string_h (P := P) w T ⟨b.toArray⟩ hT.u k (i : Int) (by omega) (by show (i : Int) ≤ ((b.toArray.size : Nat) : Int); rw [List.size_toArray]; omega)
  rw [ByteArray.extract_mk, Int.toNat_natCast, List.drop_zero, Nat.sub_zero] at h
  simp only [execOp, hx, Sem.run_bind, Option.map_none, Option.map_some, hy]
  rw [run_sliceAt_string _ T _ _ _ _ hT.u, h]
  rfl
set_option maxRecDepth 20000 in
set_option maxHeartbeats 4000000 in
theorem mdet_c {S M} (w : World) (hst : St S M w) (hG : Glob S) (cs : List Value) (u : BU) (r : RO) (n : Nat) (hn : n ≤ 65535) (more : List UInt8) (hmm : more.length ≤ 1048576) (hR : Rep.R S cs ((u, r, ⟨n⟩, ⟨more⟩, ()) : DIn)) : Rets Tryd.prog 6 [.agg cs.toArray] w fun v w' => v = .bool true ∧ St S M w' := by
  unfold Rets
  have pu := bu_parts hR.2.1
  have pr := ro_parts hR.2.2.2.1
  obtain ⟨z1, hz1⟩ : ∃ z, fewM u = z := ⟨_, rfl⟩
  obtain ⟨z3, hz3⟩ : ∃ z, fewM (buS r.2.1) = z := ⟨_, rfl⟩
  have cF1 := fun {S : Snap} {M : List Chunk} (w : World) (hst : St S M w) (cs : List Value) (hR : Rep.R S cs u) => (few_c w hst cs u hR).eq hz1
  have cF3 := fun {S : Snap} {M : List Chunk} (w : World) (hst : St S M w) (cs : List Value) (hR : Rep.R S cs (buS r.2.1)) => (few_c w hst cs _ hR).eq hz3
  cases z1 with
  | false =>
    go_enter Tryd.func6, Tryd.ntmps6
    repeat' ((fail_if_success (with_reducible show Code.wp _ (Code.region 1 _ _) _ _ _)); first | ((fail_if_success (go_big_may)); (go_step)) | (((((refine s_box hst evX rfl ?_; clear hst; intro bx w hst)))) <;> (try refine nY ?_) <;> (try replace hst := nH hst)))
    obtain ⟨S1, hS1, hstA, hp⟩ := pt_box (α := DIn) hst hR (Rep.len hR)
    clear hst
    have hst := hstA
    clear hstA
    replace hG := hG.mono hS1
    repeat' ((fail_if_success (with_reducible show Code.wp _ (Code.region 2 _ _) _ _ _)); first | (((with_reducible (refine Sl.k_field ?_; (refine s_ex hst (qt_fieldp evX hp inX inX rfl) ?_); rintro vf hpf))) <;> (try refine nY ?_)) | ((fail_if_success (go_big_may)); (go_step)) | (((with_reducible refine Sl.k_load ?_; ((refine s_ex hst (qt_ldp evX asX inX) ?_; rintro v ⟨cl, rfl, hcl⟩)))) <;> (try refine nY ?_)) | ((((first | (with_reducible refine Sl.k_store ?_; (refine s_stR hst rfl BoxIn.h evX asX inX rfl rfl ?_); clear hst; intro w hst) | (refine s_alloc hst inX ?_; clear hst; intro bk w hst)))) <;> (try refine nY ?_) <;> (try replace hst := nH hst)))
    obtain ⟨S2, hS2, hstA, hpu⟩ := pt_box (α := BU) hst hcl (Rep.len hcl)
    clear hst hcl
    have hst := hstA
    clear hstA
    replace hp := hp.mono hS2
    replace hG := hG.mono hS2
    repeat' ((fail_if_success (with_reducible show Code.wp _ (Code.region 3 _ _) _ _ _)); first | (((with_reducible (refine Sl.k_field ?_; (refine s_ex hst (qt_fieldp evX hp inX inX rfl) ?_); rintro vf hpf))) <;> (try refine nY ?_)) | ((fail_if_success (go_big_may)); (go_step)) | (((with_reducible refine Sl.k_load ?_; ((refine s_ex hst (qt_ldp evX asX inX) ?_; rintro v ⟨cl, rfl, hcl⟩)))) <;> (try refine nY ?_)) | ((((first | (with_reducible refine Sl.k_store ?_; (refine s_stR hst rfl BoxIn.h evX asX inX rfl rfl ?_); clear hst; intro w hst) | (refine s_alloc hst inX ?_; clear hst; intro bk w hst)))) <;> (try refine nY ?_) <;> (try replace hst := nH hst)))
    obtain ⟨S3, hS3, hstA, hpr⟩ := pt_box (α := RO) hst hcl (Rep.len hcl)
    clear hst hcl
    have hst := hstA
    clear hstA
    replace hp := hp.mono hS3
    replace hpu := hpu.mono hS3
    replace hG := hG.mono hS3
    have hle : S.Le S3 := hS1.trans (hS2.trans hS3)
    clear hS1 hS2 hS3
    repeat' ((fail_if_success (with_reducible show Code.wp _ (Code.region 4 _ _) _ _ _)); first | ((first | (with_reducible (refine Sl.k_field ?_; (refine s_ex hst (qt_fieldp evX hp inX inX rfl) ?_); rintro vf hpf)) | (with_reducible (refine Sl.k_load ?_; refine s_ex hst (qt_ldp_w16 evX asX inX) ?_; rintro va rfl))) <;> (try refine nY ?_)) | ((fail_if_success (go_big_may)); (go_step)))
    repeat' ((fail_if_success (with_reducible show Code.wp _ (Code.region 6 _ _) _ _ _)); first | (((with_reducible (refine Sl.k_field ?_; (refine s_ex hst (qt_fieldp evX hp inX inX rfl) ?_); rintro vf hpf))) <;> (try refine nY ?_)) | (((with_reducible refine Sl.k_call ?_; ((refine s_call (msanity_c _ hst hG) inX rfl ?_; clear hst; rintro v w ⟨rfl, hst⟩)))) <;> (try refine nY ?_) <;> (try replace hst := nH hst)) | ((fail_if_success (go_big_may)); (go_step)) | (((with_reducible refine Sl.k_load ?_; ((refine s_ex hst (qt_ldp_str evX asX inX) ?_; rintro v ⟨rfl, hs⟩)))) <;> (try refine nY ?_)))
    clear hp
    repeat' (first | go_skip | (((with_reducible refine Sl.k_call ?_; ((refine s_call (cF1 _ hst _ hcl) inX rfl ?_; clear hst; rintro v w ⟨rfl, hst⟩)))) <;> (try refine nY ?_) <;> (try replace hst := nH hst)) | ((fail_if_success (go_big_may)); (go_step)) | (((with_reducible refine Sl.k_load ?_; ((refine s_ex hst (qt_ldp evX asX inX) ?_; rintro v ⟨cl, rfl, hcl⟩)))) <;> (try refine nY ?_)) | (with_reducible refine Sl.gate rfl ?_; (go_step)))
    go_ret
    exact ⟨_, rfl, rfl, St.weaken hle hst⟩
  | true =>
    by_cases hl1 : r.1.2.2.2.1.length ≤ 20
    · cases z3 with
      | false =>
        go_enter Tryd.func6, Tryd.ntmps6
        repeat' ((fail_if_success (with_reducible show Code.wp _ (Code.region 1 _ _) _ _ _)); first | ((fail_if_success (go_big_may)); (go_step)) | (((((refine s_box hst evX rfl ?_; clear hst; intro bx w hst)))) <;> (try refine nY ?_) <;> (try replace hst := nH hst)))
        obtain ⟨S1, hS1, hstA, hp⟩ := pt_box (α := DIn) hst hR (Rep.len hR)
        clear hst
        have hst := hstA
        clear hstA
        replace hG := hG.mono hS1
        repeat' ((fail_if_success (with_reducible show Code.wp _ (Code.region 2 _ _) _ _ _)); first | (((with_reducible (refine Sl.k_field ?_; (refine s_ex hst (qt_fieldp evX hp inX inX rfl) ?_); rintro vf hpf))) <;> (try refine nY ?_)) | ((fail_if_success (go_big_may)); (go_step)) | (((with_reducible refine Sl.k_load ?_; ((refine s_ex hst (qt_ldp evX asX inX) ?_; rintro v ⟨cl, rfl, hcl⟩)))) <;> (try refine nY ?_)) | ((((first | (with_reducible refine Sl.k_store ?_; (refine s_stR hst rfl BoxIn.h evX asX inX rfl rfl ?_); clear hst; intro w hst) | (refine s_alloc hst inX ?_; clear hst; intro bk w hst)))) <;> (try refine nY ?_) <;> (try replace hst := nH hst)))
        obtain ⟨S2, hS2, hstA, hpu⟩ := pt_box (α := BU) hst hcl (Rep.len hcl)
        clear hst hcl
        have hst := hstA
        clear hstA
        replace hp := hp.mono hS2
        replace hG := hG.mono hS2
        repeat' ((fail_if_success (with_reducible show Code.wp _ (Code.region 3 _ _) _ _ _)); first | (((with_reducible (refine Sl.k_field ?_; (refine s_ex hst (qt_fieldp evX hp inX inX rfl) ?_); rintro vf hpf))) <;> (try refine nY ?_)) | ((fail_if_success (go_big_may)); (go_step)) | (((with_reducible refine Sl.k_load ?_; ((refine s_ex hst (qt_ldp evX asX inX) ?_; rintro v ⟨cl, rfl, hcl⟩)))) <;> (try refine nY ?_)) | ((((first | (with_reducible refine Sl.k_store ?_; (refine s_stR hst rfl BoxIn.h evX asX inX rfl rfl ?_); clear hst; intro w hst) | (refine s_alloc hst inX ?_; clear hst; intro bk w hst)))) <;> (try refine nY ?_) <;> (try replace hst := nH hst)))
        obtain ⟨S3, hS3, hstA, hpr⟩ := pt_box (α := RO) hst hcl (Rep.len hcl)
        clear hst hcl
        have hst := hstA
        clear hstA
        replace hp := hp.mono hS3
        replace hpu := hpu.mono hS3
        replace hG := hG.mono hS3
        have hle : S.Le S3 := hS1.trans (hS2.trans hS3)
        clear hS1 hS2 hS3
        repeat' ((fail_if_success (with_reducible show Code.wp _ (Code.region 4 _ _) _ _ _)); first | ((first | (with_reducible (refine Sl.k_field ?_; (refine s_ex hst (qt_fieldp evX hp inX inX rfl) ?_); rintro vf hpf)) | (with_reducible (refine Sl.k_load ?_; refine s_ex hst (qt_ldp_w16 evX asX inX) ?_; rintro va rfl))) <;> (try refine nY ?_)) | ((fail_if_success (go_big_may)); (go_step)))
        repeat' ((fail_if_success (with_reducible show Code.wp _ (Code.region 6 _ _) _ _ _)); first | (((with_reducible (refine Sl.k_field ?_; (refine s_ex hst (qt_fieldp evX hp inX inX rfl) ?_); rintro vf hpf))) <;> (try refine nY ?_)) | (((with_reducible refine Sl.k_call ?_; ((refine s_call (msanity_c _ hst hG) inX rfl ?_; clear hst; rintro v w ⟨rfl, hst⟩)))) <;> (try refine nY ?_) <;> (try replace hst := nH hst)) | ((fail_if_success (go_big_may)); (go_step)) | (((with_reducible refine Sl.k_load ?_; ((refine s_ex hst (qt_ldp_str evX asX inX) ?_; rintro v ⟨rfl, hs⟩)))) <;> (try refine nY ?_)))
        clear hp
        repeat' (first | go_skip | ((first | (with_reducible (refine Sl.k_field ?_; (refine s_ex hst (qt_fieldp evX hpr inX inX rfl) ?_); rintro vf hpf)) | (with_reducible (refine Sl.k_build ?_; with_unfolding_all refine s_ex hst (qt_buildP (x' := buS r.2.1) inX inX r_zBU (.cons (k := 1) (y := r.2.1) (r_listc hvl) rfl .nil)) ?_; rintro vz ⟨cz, rfl, hcz⟩)) | (with_reducible refine Sl.k_guard ?_; (first | (refine Sl.guard_yes rfl ?_) | (refine Sl.guard_cases rfl ?_ ?_ <;> intro hg <;> first | (exfalso; simp only [decide_eq_true_eq, decide_eq_false_iff_not, Bool.not_false, Bool.not_true, beq_iff_eq, beq_eq_false_iff_ne, ne_eq] at hg; omega) | (simp only [hg, Bool.not_true, Bool.not_false])) <;> (try simp only [decide_eq_true_eq, decide_eq_false_iff_not, Bool.not_false, Bool.not_true, beq_iff_eq, beq_eq_false_iff_ne, bne_iff_ne, bne_eq_false_iff_eq, ne_eq] at hg)))) <;> (try refine nY ?_)) | (((with_reducible refine Sl.k_call ?_; (first | (refine s_call (cF1 _ hst _ hcl) inX rfl ?_; clear hst; rintro v w ⟨rfl, hst⟩) | (refine s_call (cF3 _ hst _ hcz) inX rfl ?_; clear hst; rintro v w ⟨rfl, hst⟩)))) <;> (try refine nY ?_) <;> (try replace hst := nH hst)) | ((fail_if_success (go_big_may)); (go_step)) | ((first | (with_reducible refine Sl.k_load ?_; (first | (refine s_ex hst (qt_ldp_list evX asX inX) ?_; rintro v ⟨hvl, hv1⟩) | (refine s_ex hst (qt_ldp evX asX inX) ?_; rintro v ⟨cl, rfl, hcl⟩))) | (with_reducible refine Sl.k_field ?_; (((refine s_ex hst (qt_fieldp evX asX inX inX rfl) ?_); rintro v hp; (try simp only [Int.toNat_natCast, Int.toNat_natCast_add_one, Int.reduceToNat] at hp)))) | (with_reducible refine Sl.k_call ?_; (refine s_qt hst (by exact qt_len evX asX inX) ?_))) <;> (try refine nY ?_)) | (with_reducible refine Sl.gate rfl ?_; (go_step)))
        go_ret
        exact ⟨_, rfl, rfl, St.weaken hle hst⟩
      | true =>
        by_cases hl2 : more.length ≤ 100
        · skip
          have ku : BuOk u := bu_ok pu hz1
          have kr : RoOk r := ro_ok pr hl1 hz3
          clear pu pr hz1 hz3
          have cB := fun {S : Snap} {M : List Chunk} (w : World) (hst : St S M w) (cs : List Value) (hR : Rep.R S cs u) => encBU_c w hst cs u hR (by have := ku.few.b; omega) (by have := ku.few.c; omega) (by have := ku.bb; omega)
          have cR := fun {S : Snap} {M : List Chunk} (w : World) (hst : St S M w) (cs : List Value) (hR : Rep.R S cs r) => encRO_c w hst cs r hR (by have := kr.b; omega) (by have := kr.bb; omega)
          have b3 := ku.bb
          have b4 := kr.bb
          have p3 := encBU_pos u
          have p4 := encRO_pos r
          have cut3 : ∀ i, i < (encBU u).length → (decP buP zBU ((encBU u).take i)).2 = 6 := fun i hi => dec_cut bu_codec ku.okb hi
          have cut4 : ∀ i, i < (encRO r).length → (decP roP zRO ((encRO r).take i)).2 = 6 := fun i hi => dec_cut ro_codec kr.okr hi
          have mor3 : more ≠ [] → (decP buP zBU (encBU u ++ more)).2 = 7 := fun h => dec_more bu_codec ku.okb h
          have mor4 : more ≠ [] → (decP roP zRO (encRO r ++ more)).2 = 7 := fun h => dec_more ro_codec kr.okr h
          generalize encBU u = eb at *
          generalize encRO r = er at *
          clear ku kr
          have hi3 : n % eb.length < eb.length := Nat.mod_lt _ p3
          have hi4 : n % er.length < er.length := Nat.mod_lt _ p4
          have c3 := cut3 _ hi3
          have c4 := cut4 _ hi4
          clear cut3 cut4
          have cD3 := fun {S : Snap} {M : List Chunk} (w : World) (hst : St S M w) => DecodeB_c w hst (eb.take (n % eb.length)) (by rw [List.length_take]; omega)
          have cD4 := fun {S : Snap} {M : List Chunk} (w : World) (hst : St S M w) => DecodeR_c w hst (er.take (n % er.length)) (by rw [List.length_take]; omega)
          obtain ⟨⟨d3, f3⟩, g3⟩ : ∃ q, decP buP zBU (eb.take (n % eb.length)) = q := ⟨_, rfl⟩
          obtain ⟨⟨d4, f4⟩, g4⟩ : ∃ q, decP roP zRO (er.take (n % er.length)) = q := ⟨_, rfl⟩
          rw [g3] at c3 cD3
          rw [g4] at c4 cD4
          simp only at c3 c4
          subst c3
          subst c4
          clear g3 g4
          go_enter Tryd.func6, Tryd.ntmps6
          repeat' ((fail_if_success (with_reducible show Code.wp _ (Code.region 1 _ _) _ _ _)); first | ((fail_if_success (go_big_may)); (go_step)) | (((((refine s_box hst evX rfl ?_; clear hst; intro bx w hst)))) <;> (try refine nY ?_) <;> (try replace hst := nH hst)))
          obtain ⟨S1, hS1, hstA, hp⟩ := pt_box (α := DIn) hst hR (Rep.len hR)
          clear hst
          have hst := hstA
          clear hstA
          replace hG := hG.mono hS1
          repeat' ((fail_if_success (with_reducible show Code.wp _ (Code.region 2 _ _) _ _ _)); first | (((with_reducible (refine Sl.k_field ?_; (refine s_ex hst (qt_fieldp evX hp inX inX rfl) ?_); rintro vf hpf))) <;> (try refine nY ?_)) | ((fail_if_success (go_big_may)); (go_step)) | (((with_reducible refine Sl.k_load ?_; ((refine s_ex hst (qt_ldp evX asX inX) ?_; rintro v ⟨cl, rfl, hcl⟩)))) <;> (try refine nY ?_)) | ((((first | (with_reducible refine Sl.k_store ?_; (refine s_stR hst rfl BoxIn.h evX asX inX rfl rfl ?_); clear hst; intro w hst) | (refine s_alloc hst inX ?_; clear hst; intro bk w hst)))) <;> (try refine nY ?_) <;> (try replace hst := nH hst)))
          obtain ⟨S2, hS2, hstA, hpu⟩ := pt_box (α := BU) hst hcl (Rep.len hcl)
          clear hst hcl
          have hst := hstA
          clear hstA
          replace hp := hp.mono hS2
          replace hG := hG.mono hS2
          repeat' ((fail_if_success (with_reducible show Code.wp _ (Code.region 3 _ _) _ _ _)); first | (((with_reducible (refine Sl.k_field ?_; (refine s_ex hst (qt_fieldp evX hp inX inX rfl) ?_); rintro vf hpf))) <;> (try refine nY ?_)) | ((fail_if_success (go_big_may)); (go_step)) | (((with_reducible refine Sl.k_load ?_; ((refine s_ex hst (qt_ldp evX asX inX) ?_; rintro v ⟨cl, rfl, hcl⟩)))) <;> (try refine nY ?_)) | ((((first | (with_reducible refine Sl.k_store ?_; (refine s_stR hst rfl BoxIn.h evX asX inX rfl rfl ?_); clear hst; intro w hst) | (refine s_alloc hst inX ?_; clear hst; intro bk w hst)))) <;> (try refine nY ?_) <;> (try replace hst := nH hst)))
          obtain ⟨S3, hS3, hstA, hpr⟩ := pt_box (α := RO) hst hcl (Rep.len hcl)
          clear hst hcl
          have hst := hstA
          clear hstA
          replace hp := hp.mono hS3
          replace hpu := hpu.mono hS3
          replace hG := hG.mono hS3
          have hle : S.Le S3 := hS1.trans (hS2.trans hS3)
          clear hS1 hS2 hS3
          repeat' ((fail_if_success (with_reducible show Code.wp _ (Code.region 4 _ _) _ _ _)); first | ((first | (with_reducible (refine Sl.k_field ?_; (refine s_ex hst (qt_fieldp evX hp inX inX rfl) ?_); rintro vf hpf)) | (with_reducible (refine Sl.k_load ?_; refine s_ex hst (qt_ldp_w16 evX asX inX) ?_; rintro va rfl))) <;> (try refine nY ?_)) | ((fail_if_success (go_big_may)); (go_step)))
          repeat' ((fail_if_success (with_reducible show Code.wp _ (Code.region 6 _ _) _ _ _)); first | (((with_reducible (refine Sl.k_field ?_; (refine s_ex hst (qt_fieldp evX hp inX inX rfl) ?_); rintro vf hpf))) <;> (try refine nY ?_)) | (((with_reducible refine Sl.k_call ?_; ((refine s_call (msanity_c _ hst hG) inX rfl ?_; clear hst; rintro v w ⟨rfl, hst⟩)))) <;> (try refine nY ?_) <;> (try replace hst := nH hst)) | ((fail_if_success (go_big_may)); (go_step)) | (((with_reducible refine Sl.k_load ?_; ((refine s_ex hst (qt_ldp_str evX asX inX) ?_; rintro v ⟨rfl, hs⟩)))) <;> (try refine nY ?_)))
          clear hp
          repeat' ((fail_if_success (with_reducible show Code.wp _ (Code.region 8 _ _) _ _ _)); first | ((first | (with_reducible (refine Sl.k_field ?_; (refine s_ex hst (qt_fieldp evX hpr inX inX rfl) ?_); rintro vf hpf)) | (with_reducible (refine Sl.k_build ?_; with_unfolding_all refine s_ex hst (qt_buildP (x' := buS r.2.1) inX inX r_zBU (.cons (k := 1) (y := r.2.1) (r_listc hvl) rfl .nil)) ?_; rintro vz ⟨cz, rfl, hcz⟩)) | (with_reducible refine Sl.k_guard ?_; (first | (refine Sl.guard_yes rfl ?_) | (refine Sl.guard_cases rfl ?_ ?_ <;> intro hg <;> first | (exfalso; simp only [decide_eq_true_eq, decide_eq_false_iff_not, Bool.not_false, Bool.not_true, beq_iff_eq, beq_eq_false_iff_ne, ne_eq] at hg; omega) | (simp only [hg, Bool.not_true, Bool.not_false])) <;> (try simp only [decide_eq_true_eq, decide_eq_false_iff_not, Bool.not_false, Bool.not_true, beq_iff_eq, beq_eq_false_iff_ne, bne_iff_ne, bne_eq_false_iff_eq, ne_eq] at hg)))) <;> (try refine nY ?_)) | (((with_reducible refine Sl.k_call ?_; (first | (refine s_call (cF1 _ hst _ hcl) inX rfl ?_; clear hst; rintro v w ⟨rfl, hst⟩) | (refine s_call (cF3 _ hst _ hcz) inX rfl ?_; clear hst; rintro v w ⟨rfl, hst⟩)))) <;> (try refine nY ?_) <;> (try replace hst := nH hst)) | ((fail_if_success (go_big_may)); (go_step)) | ((first | (with_reducible refine Sl.k_load ?_; (first | (refine s_ex hst (qt_ldp_list evX asX inX) ?_; rintro v ⟨hvl, hv1⟩) | (refine s_ex hst (qt_ldp evX asX inX) ?_; rintro v ⟨cl, rfl, hcl⟩))) | (with_reducible refine Sl.k_field ?_; (((refine s_ex hst (qt_fieldp evX asX inX inX rfl) ?_); rintro v hp; (try simp only [Int.toNat_natCast, Int.toNat_natCast_add_one, Int.reduceToNat] at hp)))) | (with_reducible refine Sl.k_call ?_; (refine s_qt hst (by first | exact qt_len evX asX inX | exact qt_len_str evX inX) ?_))) <;> (try refine nY ?_)) | (with_reducible refine Sl.gate rfl ?_; (go_step)))
          repeat' ((fail_if_success (with_reducible show Code.wp _ (Code.region 9 _ _) _ _ _)); first | (((with_reducible refine Sl.k_call ?_; ((refine s_call (cB _ hst _ hcl) inX rfl ?_; clear hst; rintro v w ⟨rfl, hst⟩)))) <;> (try refine nY ?_) <;> (try replace hst := nH hst)) | ((fail_if_success (go_big_may)); (go_step)) | (((with_reducible refine Sl.k_load ?_; ((refine s_ex hst (qt_ldp evX asX inX) ?_; rintro v ⟨cl, rfl, hcl⟩)))) <;> (try refine nY ?_)))
          repeat' ((fail_if_success (with_reducible show Code.wp _ (Code.region 10 _ _) _ _ _)); first | (((with_reducible refine Sl.k_call ?_; ((refine s_call (cR _ hst _ hcl) inX rfl ?_; clear hst; rintro v w ⟨rfl, hst⟩)))) <;> (try refine nY ?_) <;> (try replace hst := nH hst)) | ((fail_if_success (go_big_may)); (go_step)) | (((with_reducible refine Sl.k_load ?_; ((refine s_ex hst (qt_ldp evX asX inX) ?_; rintro v ⟨cl, rfl, hcl⟩)))) <;> (try refine nY ?_)))
          repeat' ((fail_if_success (with_reducible show Code.wp _ (Code.region 12 _ _) _ _ _)); first | (((with_reducible refine Sl.k_guard ?_; (first | (refine Sl.guard_yes rfl ?_) | (refine Sl.guard_cases rfl ?_ ?_ <;> intro hg <;> first | (exfalso; simp only [decide_eq_true_eq, decide_eq_false_iff_not, Bool.not_false, Bool.not_true, beq_iff_eq, beq_eq_false_iff_ne, ne_eq] at hg; omega) | (simp only [hg, Bool.not_true, Bool.not_false])) <;> (try simp only [decide_eq_true_eq, decide_eq_false_iff_not, Bool.not_false, Bool.not_true, beq_iff_eq, beq_eq_false_iff_ne, bne_iff_ne, bne_eq_false_iff_eq, ne_eq] at hg)))) <;> (try refine nY ?_)) | ((fail_if_success (go_big_may)); (go_step)) | (((with_reducible refine Sl.k_call ?_; (refine s_qt hst (by exact qt_len_str evX inX) ?_))) <;> (try refine nY ?_)) | (with_reducible refine Sl.gate rfl ?_; (go_step)))
          repeat' ((fail_if_success (with_reducible show Code.wp _ (Code.region 13 _ _) _ _ _)); first | (((with_reducible (refine Sl.k_conv ?_; with_unfolding_all refine s_qt hst (qt_conv_b (m := (n : Int)) rfl inX inX (wrap_sm ⟨by omega, by omega⟩)) ?_))) <;> (try refine nY ?_)) | ((fail_if_success (go_big_may)); (go_step)) | (((with_reducible refine Sl.k_call ?_; (refine s_qt hst (by exact qt_len_str evX inX) ?_))) <;> (try refine nY ?_)) | (with_reducible refine Sl.gate rfl ?_; (go_step)))
          refine s_qt hst (qt_takeS (b := eb) (i := n % eb.length) rfl rfl (by simp) inX (by omega)) ?_
          (try refine nY ?_)
          repeat' ((fail_if_success (with_reducible show Code.wp _ (Code.region 13 _ _) _ _ _)); first | (((with_reducible refine Sl.k_call ?_; ((refine s_call (cD3 _ hst) inX rfl ?_; clear hst; rintro v w ⟨S4, x1, x2, x3, a0, n0, c0, a1, n1, c1, a2, n2, c2, hS4, rfl, hR4, hst⟩)))) <;> (try refine nY ?_) <;> (try replace hst := nH hst)) | ((fail_if_success (go_big_may)); (go_step)) | (with_reducible refine Sl.gate rfl ?_; (go_step)) | ((((first | (with_reducible refine Sl.k_store ?_; (refine s_store hst rfl _ BoxIn.h inX evX rfl lenOk oneOk (by simp) ?_); clear hst; intro w hst) | (refine s_alloc hst inX ?_; clear hst; intro bk w hst)))) <;> (try refine nY ?_) <;> (try replace hst := nH hst)))
          repeat' ((fail_if_success (with_reducible show Code.wp _ (Code.region 14 _ _) _ _ _)); first | (((with_reducible (refine Sl.k_conv ?_; with_unfolding_all refine s_qt hst (qt_conv_b (m := (n : Int)) rfl inX inX (wrap_sm ⟨by omega, by omega⟩)) ?_))) <;> (try refine nY ?_)) | ((fail_if_success (go_big_may)); (go_step)) | (((with_reducible refine Sl.k_call ?_; (refine s_qt hst (by exact qt_len_str evX inX) ?_))) <;> (try refine nY ?_)) | (with_reducible refine Sl.gate rfl ?_; (go_step)))
          refine s_qt hst (qt_takeS (b := er) (i := n % er.length) rfl rfl (by simp) inX (by omega)) ?_
          (try refine nY ?_)
          repeat' ((fail_if_success (with_reducible show Code.wp _ (Code.region 14 _ _) _ _ _)); first | (((with_reducible refine Sl.k_call ?_; ((refine s_call (cD4 _ hst) inX rfl ?_; clear hst; rintro v w ⟨S5, y1, y2, y3, b0, p0, s0, b1, p1, s1, hS5, rfl, hR5, hst⟩)))) <;> (try refine nY ?_) <;> (try replace hst := nH hst)) | ((fail_if_success (go_big_may)); (go_step)) | (with_reducible refine Sl.gate rfl ?_; (go_step)) | ((((first | (with_reducible refine Sl.k_store ?_; (refine s_store hst rfl _ BoxIn.h inX evX rfl lenOk oneOk (by simp) ?_); clear hst; intro w hst) | (refine s_alloc hst inX ?_; clear hst; intro bk w hst)))) <;> (try refine nY ?_) <;> (try replace hst := nH hst)))
          have hle5 := hle.trans (hS4.trans hS5)
          by_cases hm0 : more = []
          · subst hm0
            repeat' (first | ((first | (with_reducible refine Sl.k_bin ?_; (refine s_qt hst (qt_eql_str (a := []) (b := []) (c := true) rfl rfl inX (by decide)) ?_)) | (with_reducible refine Sl.k_guard ?_; ((refine Sl.guard_yes rfl ?_)))) <;> (try refine nY ?_)) | ((fail_if_success (go_big_may)); (go_step)) | (with_reducible refine Sl.gate rfl ?_; (go_step)))
            go_ret
            exact ⟨_, rfl, rfl, (St.weaken hle5 hst).drop.drop⟩
          · have c5 := mor3 hm0
            have c6 := mor4 hm0
            have cD5 := fun {S : Snap} {M : List Chunk} (w : World) (hst : St S M w) => DecodeB_c w hst (eb ++ more) (by rw [List.length_append]; omega)
            have cD6 := fun {S : Snap} {M : List Chunk} (w : World) (hst : St S M w) => DecodeR_c w hst (er ++ more) (by rw [List.length_append]; omega)
            obtain ⟨⟨d5, f5⟩, g5⟩ : ∃ q, decP buP zBU (eb ++ more) = q := ⟨_, rfl⟩
            obtain ⟨⟨d6, f6⟩, g6⟩ : ∃ q, decP roP zRO (er ++ more) = q := ⟨_, rfl⟩
            rw [g5] at c5 cD5
            rw [g6] at c6 cD6
            simp only at c5 c6
            subst c5
            subst c6
            clear g5 g6 mor3 mor4
            repeat' ((fail_if_success (with_reducible show Code.wp _ (Code.region 18 _ _) _ _ _)); first | (((with_reducible refine Sl.k_guard ?_; ((refine Sl.guard_yes rfl ?_)))) <;> (try refine nY ?_)) | ((fail_if_success (go_big_may)); (go_step)) | (with_reducible refine Sl.gate rfl ?_; (go_step)))
            repeat' ((fail_if_success (with_reducible show Code.wp _ (Code.region 19 _ _) _ _ _)); first | (((with_reducible (with_unfolding_all refine s_qt hst (qt_addS (a := eb) (b := more) rfl rfl (by omega) (by omega)) ?_))) <;> (try refine nY ?_)) | (((with_reducible refine Sl.k_call ?_; ((refine s_call (cD5 _ hst) inX rfl ?_; clear hst; rintro v w ⟨S6, z1, z2, z3, a4, n4, c4, a5, n5, c5, a6, n6, c6, hS6, rfl, hR6, hst⟩)))) <;> (try refine nY ?_) <;> (try replace hst := nH hst)) | ((fail_if_success (go_big_may)); (go_step)) | (with_reducible refine Sl.gate rfl ?_; (go_step)) | ((((first | (with_reducible refine Sl.k_store ?_; (refine s_store hst rfl _ BoxIn.h inX evX rfl lenOk oneOk (by simp) ?_); clear hst; intro w hst) | (refine s_alloc hst inX ?_; clear hst; intro bk w hst)))) <;> (try refine nY ?_) <;> (try replace hst := nH hst)))
            repeat' ((fail_if_success (with_reducible show Code.wp _ (Code.region 20 _ _) _ _ _)); first | (((with_reducible (with_unfolding_all refine s_qt hst (qt_addS (a := er) (b := more) rfl rfl (by omega) (by omega)) ?_))) <;> (try refine nY ?_)) | (((with_reducible refine Sl.k_call ?_; ((refine s_call (cD6 _ hst) inX rfl ?_; clear hst; rintro v w ⟨S7, w1, w2, w3, b4, p4, s4, b5, p5, s5, hS7, rfl, hR7, hst⟩)))) <;> (try refine nY ?_) <;> (try replace hst := nH hst)) | ((fail_if_success (go_big_may)); (go_step)) | (with_reducible refine Sl.gate rfl ?_; (go_step)) | ((((first | (with_reducible refine Sl.k_store ?_; (refine s_store hst rfl _ BoxIn.h inX evX rfl lenOk oneOk (by simp) ?_); clear hst; intro w hst) | (refine s_alloc hst inX ?_; clear hst; intro bk w hst)))) <;> (try refine nY ?_) <;> (try replace hst := nH hst)))
            repeat' (first | (((with_reducible refine Sl.k_guard ?_; ((refine Sl.guard_yes rfl ?_)))) <;> (try refine nY ?_)) | ((fail_if_success (go_big_may)); (go_step)) | (with_reducible refine Sl.gate rfl ?_; (go_step)))
            all_goals
              go_ret
              first
              | exact ⟨_, rfl, rfl, (St.weaken (hle5.trans (hS6.trans hS7)) hst).drop.drop.drop.drop⟩
              | exact ⟨_, rfl, rfl, (St.weaken hle5 hst).drop.drop⟩
        · skip
          go_enter Tryd.func6, Tryd.ntmps6
          repeat' ((fail_if_success (with_reducible show Code.wp _ (Code.region 1 _ _) _ _ _)); first | ((fail_if_success (go_big_may)); (go_step)) | (((((refine s_box hst evX rfl ?_; clear hst; intro bx w hst)))) <;> (try refine nY ?_) <;> (try replace hst := nH hst)))
          obtain ⟨S1, hS1, hstA, hp⟩ := pt_box (α := DIn) hst hR (Rep.len hR)
          clear hst
          have hst := hstA
          clear hstA
          replace hG := hG.mono hS1
          repeat' ((fail_if_success (with_reducible show Code.wp _ (Code.region 2 _ _) _ _ _)); first | (((with_reducible (refine Sl.k_field ?_; (refine s_ex hst (qt_fieldp evX hp inX inX rfl) ?_); rintro vf hpf))) <;> (try refine nY ?_)) | ((fail_if_success (go_big_may)); (go_step)) | (((with_reducible refine Sl.k_load ?_; ((refine s_ex hst (qt_ldp evX asX inX) ?_; rintro v ⟨cl, rfl, hcl⟩)))) <;> (try refine nY ?_)) | ((((first | (with_reducible refine Sl.k_store ?_; (refine s_stR hst rfl BoxIn.h evX asX inX rfl rfl ?_); clear hst; intro w hst) | (refine s_alloc hst inX ?_; clear hst; intro bk w hst)))) <;> (try refine nY ?_) <;> (try replace hst := nH hst)))
          obtain ⟨S2, hS2, hstA, hpu⟩ := pt_box (α := BU) hst hcl (Rep.len hcl)
          clear hst hcl
          have hst := hstA
          clear hstA
          replace hp := hp.mono hS2
          replace hG := hG.mono hS2
          repeat' ((fail_if_success (with_reducible show Code.wp _ (Code.region 3 _ _) _ _ _)); first | (((with_reducible (refine Sl.k_field ?_; (refine s_ex hst (qt_fieldp evX hp inX inX rfl) ?_); rintro vf hpf))) <;> (try refine nY ?_)) | ((fail_if_success (go_big_may)); (go_step)) | (((with_reducible refine Sl.k_load ?_; ((refine s_ex hst (qt_ldp evX asX inX) ?_; rintro v ⟨cl, rfl, hcl⟩)))) <;> (try refine nY ?_)) | ((((first | (with_reducible refine Sl.k_store ?_; (refine s_stR hst rfl BoxIn.h evX asX inX rfl rfl ?_); clear hst; intro w hst) | (refine s_alloc hst inX ?_; clear hst; intro bk w hst)))) <;> (try refine nY ?_) <;> (try replace hst := nH hst)))
          obtain ⟨S3, hS3, hstA, hpr⟩ := pt_box (α := RO) hst hcl (Rep.len hcl)
          clear hst hcl
          have hst := hstA
          clear hstA
          replace hp := hp.mono hS3
          replace hpu := hpu.mono hS3
          replace hG := hG.mono hS3
          have hle : S.Le S3 := hS1.trans (hS2.trans hS3)
          clear hS1 hS2 hS3
          repeat' ((fail_if_success (with_reducible show Code.wp _ (Code.region 4 _ _) _ _ _)); first | ((first | (with_reducible (refine Sl.k_field ?_; (refine s_ex hst (qt_fieldp evX hp inX inX rfl) ?_); rintro vf hpf)) | (with_reducible (refine Sl.k_load ?_; refine s_ex hst (qt_ldp_w16 evX asX inX) ?_; rintro va rfl))) <;> (try refine nY ?_)) | ((fail_if_success (go_big_may)); (go_step)))
          repeat' ((fail_if_success (with_reducible show Code.wp _ (Code.region 6 _ _) _ _ _)); first | (((with_reducible (refine Sl.k_field ?_; (refine s_ex hst (qt_fieldp evX hp inX inX rfl) ?_); rintro vf hpf))) <;> (try refine nY ?_)) | (((with_reducible refine Sl.k_call ?_; ((refine s_call (msanity_c _ hst hG) inX rfl ?_; clear hst; rintro v w ⟨rfl, hst⟩)))) <;> (try refine nY ?_) <;> (try replace hst := nH hst)) | ((fail_if_success (go_big_may)); (go_step)) | (((with_reducible refine Sl.k_load ?_; ((refine s_ex hst (qt_ldp_str evX asX inX) ?_; rintro v ⟨rfl, hs⟩)))) <;> (try refine nY ?_)))
          clear hp
          repeat' (first | ((first | (with_reducible (refine Sl.k_field ?_; (refine s_ex hst (qt_fieldp evX hpr inX inX rfl) ?_); rintro vf hpf)) | (with_reducible (refine Sl.k_build ?_; with_unfolding_all refine s_ex hst (qt_buildP (x' := buS r.2.1) inX inX r_zBU (.cons (k := 1) (y := r.2.1) (r_listc hvl) rfl .nil)) ?_; rintro vz ⟨cz, rfl, hcz⟩)) | (with_reducible refine Sl.k_guard ?_; (first | (refine Sl.guard_yes rfl ?_) | (refine Sl.guard_cases rfl ?_ ?_ <;> intro hg <;> first | (exfalso; simp only [decide_eq_true_eq, decide_eq_false_iff_not, Bool.not_false, Bool.not_true, beq_iff_eq, beq_eq_false_iff_ne, ne_eq] at hg; omega) | (simp only [hg, Bool.not_true, Bool.not_false])) <;> (try simp only [decide_eq_true_eq, decide_eq_false_iff_not, Bool.not_false, Bool.not_true, beq_iff_eq, beq_eq_false_iff_ne, bne_iff_ne, bne_eq_false_iff_eq, ne_eq] at hg)))) <;> (try refine nY ?_)) | (((with_reducible refine Sl.k_call ?_; (first | (refine s_call (cF1 _ hst _ hcl) inX rfl ?_; clear hst; rintro v w ⟨rfl, hst⟩) | (refine s_call (cF3 _ hst _ hcz) inX rfl ?_; clear hst; rintro v w ⟨rfl, hst⟩)))) <;> (try refine nY ?_) <;> (try replace hst := nH hst)) | ((fail_if_success (go_big_may)); (go_step)) | ((first | (with_reducible refine Sl.k_load ?_; (first | (refine s_ex hst (qt_ldp_list evX asX inX) ?_; rintro v ⟨hvl, hv1⟩) | (refine s_ex hst (qt_ldp evX asX inX) ?_; rintro v ⟨cl, rfl, hcl⟩))) | (with_reducible refine Sl.k_field ?_; (((refine s_ex hst (qt_fieldp evX asX inX inX rfl) ?_); rintro v hp; (try simp only [Int.toNat_natCast, Int.toNat_natCast_add_one, Int.reduceToNat] at hp)))) | (with_reducible refine Sl.k_call ?_; (refine s_qt hst (by first | exact qt_len evX asX inX | exact qt_len_str evX inX) ?_))) <;> (try refine nY ?_)) | (with_reducible refine Sl.gate rfl ?_; (go_step)))
          go_ret
          exact ⟨_, rfl, rfl, St.weaken hle hst⟩
    · skip
      go_enter Tryd.func6, Tryd.ntmps6
      repeat' ((fail_if_success (with_reducible show Code.wp _ (Code.region 1 _ _) _ _ _)); first | ((fail_if_success (go_big_may)); (go_step)) | (((((refine s_box hst evX rfl ?_; clear hst; intro bx w hst)))) <;> (try refine nY ?_) <;> (try replace hst := nH hst)))
      obtain ⟨S1, hS1, hstA, hp⟩ := pt_box (α := DIn) hst hR (Rep.len hR)
      clear hst
      have hst := hstA
      clear hstA
      replace hG := hG.mono hS1
      repeat' ((fail_if_success (with_reducible show Code.wp _ (Code.region 2 _ _) _ _ _)); first | (((with_reducible (refine Sl.k_field ?_; (refine s_ex hst (qt_fieldp evX hp inX inX rfl) ?_); rintro vf hpf))) <;> (try refine nY ?_)) | ((fail_if_success (go_big_may)); (go_step)) | (((with_reducible refine Sl.k_load ?_; ((refine s_ex hst (qt_ldp evX asX inX) ?_; rintro v ⟨cl, rfl, hcl⟩)))) <;> (try refine nY ?_)) | ((((first | (with_reducible refine Sl.k_store ?_; (refine s_stR hst rfl BoxIn.h evX asX inX rfl rfl ?_); clear hst; intro w hst) | (refine s_alloc hst inX ?_; clear hst; intro bk w hst)))) <;> (try refine nY ?_) <;> (try replace hst := nH hst)))
      obtain ⟨S2, hS2, hstA, hpu⟩ := pt_box (α := BU) hst hcl (Rep.len hcl)
      clear hst hcl
      have hst := hstA
      clear hstA
      replace hp := hp.mono hS2
      replace hG := hG.mono hS2
      repeat' ((fail_if_success (with_reducible show Code.wp _ (Code.region 3 _ _) _ _ _)); first | (((with_reducible (refine Sl.k_field ?_; (refine s_ex hst (qt_fieldp evX hp inX inX rfl) ?_); rintro vf hpf))) <;> (try refine nY ?_)) | ((fail_if_success (go_big_may)); (go_step)) | (((with_reducible refine Sl.k_load ?_; ((refine s_ex hst (qt_ldp evX asX inX) ?_; rintro v ⟨cl, rfl, hcl⟩)))) <;> (try refine nY ?_)) | ((((first | (with_reducible refine Sl.k_store ?_; (refine s_stR hst rfl BoxIn.h evX asX inX rfl rfl ?_); clear hst; intro w hst) | (refine s_alloc hst inX ?_; clear hst; intro bk w hst)))) <;> (try refine nY ?_) <;> (try replace hst := nH hst)))
      obtain ⟨S3, hS3, hstA, hpr⟩ := pt_box (α := RO) hst hcl (Rep.len hcl)
      clear hst hcl
      have hst := hstA
      clear hstA
      replace hp := hp.mono hS3
      replace hpu := hpu.mono hS3
      replace hG := hG.mono hS3
      have hle : S.Le S3 := hS1.trans (hS2.trans hS3)
      clear hS1 hS2 hS3
      repeat' ((fail_if_success (with_reducible show Code.wp _ (Code.region 4 _ _) _ _ _)); first | ((first | (with_reducible (refine Sl.k_field ?_; (refine s_ex hst (qt_fieldp evX hp inX inX rfl) ?_); rintro vf hpf)) | (with_reducible (refine Sl.k_load ?_; refine s_ex hst (qt_ldp_w16 evX asX inX) ?_; rintro va rfl))) <;> (try refine nY ?_)) | ((fail_if_success (go_big_may)); (go_step)))
      repeat' ((fail_if_success (with_reducible show Code.wp _ (Code.region 6 _ _) _ _ _)); first | (((with_reducible (refine Sl.k_field ?_; (refine s_ex hst (qt_fieldp evX hp inX inX rfl) ?_); rintro vf hpf))) <;> (try refine nY ?_)) | (((with_reducible refine Sl.k_call ?_; ((refine s_call (msanity_c _ hst hG) inX rfl ?_; clear hst; rintro v w ⟨rfl, hst⟩)))) <;> (try refine nY ?_) <;> (try replace hst := nH hst)) | ((fail_if_success (go_big_may)); (go_step)) | (((with_reducible refine Sl.k_load ?_; ((refine s_ex hst (qt_ldp_str evX asX inX) ?_; rintro v ⟨rfl, hs⟩)))) <;> (try refine nY ?_)))
      clear hp
      repeat' (first | go_skip | ((first | (with_reducible (refine Sl.k_field ?_; (refine s_ex hst (qt_fieldp evX hpr inX inX rfl) ?_); rintro vf hpf)) | (with_reducible refine Sl.k_guard ?_; (first | (refine Sl.guard_yes rfl ?_) | (refine Sl.guard_cases rfl ?_ ?_ <;> intro hg <;> first | (exfalso; simp only [decide_eq_true_eq, decide_eq_false_iff_not, Bool.not_false, Bool.not_true, beq_iff_eq, beq_eq_false_iff_ne, ne_eq] at hg; omega) | (simp only [hg, Bool.not_true, Bool.not_false])) <;> (try simp only [decide_eq_true_eq, decide_eq_false_iff_not, Bool.not_false, Bool.not_true, beq_iff_eq, beq_eq_false_iff_ne, bne_iff_ne, bne_eq_false_iff_eq, ne_eq] at hg)))) <;> (try refine nY ?_)) | (((with_reducible refine Sl.k_call ?_; ((refine s_call (cF1 _ hst _ hcl) inX rfl ?_; clear hst; rintro v w ⟨rfl, hst⟩)))) <;> (try refine nY ?_) <;> (try replace hst := nH hst)) | ((fail_if_success (go_big_may)); (go_step)) | ((first | (with_reducible refine Sl.k_load ?_; (first | (refine s_ex hst (qt_ldp_list evX asX inX) ?_; rintro v ⟨hvl, hv1⟩) | (refine s_ex hst (qt_ldp evX asX inX) ?_; rintro v ⟨cl, rfl, hcl⟩))) | (with_reducible refine Sl.k_field ?_; (((refine s_ex hst (qt_fieldp evX asX inX inX rfl) ?_); rintro v hp; (try simp only [Int.toNat_natCast, Int.toNat_natCast_add_one, Int.reduceToNat] at hp)))) | (with_reducible refine Sl.k_call ?_; (refine s_qt hst (by exact qt_len evX asX inX) ?_))) <;> (try refine nY ?_)) | (with_reducible refine Sl.gate rfl ?_; (go_step)))
      go_ret
      exact ⟨_, rfl, rfl, St.weaken hle hst⟩
theorem mdet_k {S M} (w : World) (hst : St S M w) (hG : Glob S) (cs : List Value) (x : DIn) (hmm : x.2.2.2.1.b.length ≤ 1048576) (hR : Rep.R S cs x) : Rets Tryd.prog 6 [.agg cs.toArray] w fun v w' => v = .bool true ∧ St S M w' := by
  obtain ⟨u, r, ⟨n⟩, ⟨more⟩, ⟨⟩⟩ := x
  exact mdet_c w hst hG cs u r n hR.2.2.2.2.2.1.2 more hmm hR
end Go.Proofs.YtlimhgamebnfeaaDoor

/- Package manifest: how the arguments of ManifestDetectsLength are read. -/
namespace Go.Proofs.YtlimhgamebnfeaaDoor
set_option linter.unusedSimpArgs false
set_option linter.unusedVariables false
open Go.RowKit Go.Sl Go.ChangeShapes Go.WideShapes Go.ChangeAt

instance sizBU3 : Siz BU := inferInstance
instance sizRO3 : Siz RO := inferInstance
instance sizW16 : Siz W16 := ⟨fun _ => 1⟩
theorem opens_w16 {P : Program} {T : TypeId} (h : P.underlying T = some (.int .u16)) : Opens P T W16 := ⟨fun hx => by
  obtain ⟨n, rfl, rfl, hw⟩ := DataW.trod_int h hx
  have : 0 ≤ n ∧ n ≤ 65535 := by simpa [Lit.wf, IntKind.min, IntKind.max, IntKind.signed, IntKind.bits] using hw
  refine ⟨⟨n.toNat⟩, ⟨?_, by show n.toNat ≤ 65535; omega⟩, by simp [Rows.uptoBulk, Siz.siz]⟩
  show [Value.int .u16 n] = [Value.int .u16 ((n.toNat : Nat) : Int)]
  rw [Int.toNat_of_nonneg this.1]⟩
instance opW : Opens Tryd.prog 63 W16 := opens_w16 (by kernel_rfl)
instance opDIn : Opens Tryd.prog 65 DIn := opens_struct Tryd.underlying65 (by kernel_rfl)
  (openFs_cons rfl (by kernel_rfl) (ob := openFs_cons rfl (by kernel_rfl) (ob := openFs_cons rfl (by kernel_rfl) (ob := openFs_cons rfl (by kernel_rfl) (ob := openFs_nil)))))
set_option maxRecDepth 20000 in
theorem open_din {H : Type} {enc : TypeId × Value → H} {W : World} {base : Nat} {v : Value} {d : DataW H} {p : List MemPlace} (hv : Value.okWide Tryd.prog W .any base 65 v) (h : DataW.Trod enc Tryd.prog W 0 (fun _ => true) true 65 v d p) (hk : Rows.uptoBulk d ≤ 1048576) :
    ∃ (cs : List Value) (x : DIn), v = .agg cs.toArray ∧ x.2.2.2.1.b.length ≤ 1048576 ∧ Rep.R (snapOf W) cs x := by
  obtain ⟨cs, rfl, _⟩ := okWide_struct Tryd.underlying65 hv
  obtain ⟨y, hy, hs⟩ := open_arg (α := DIn) h
  have h1 : Siz.siz y = Siz.siz y.1 + (Siz.siz y.2.1 + (Siz.siz y.2.2.1 + (Siz.siz y.2.2.2.1 + Siz.siz y.2.2.2.2))) := rfl
  have h2 : y.2.2.2.1.b.length ≤ Siz.siz y.2.2.2.1 := by simp only [Siz.siz]; omega
  exact ⟨cs.toList, y, by simp, by omega, hy⟩
end Go.Proofs.YtlimhgamebnfeaaDoor

/- The statement ManifestDetectsLength. -/
namespace Go.Proofs.YtlimhgamebnfeaaDoor
set_option linter.unusedSimpArgs false
set_option linter.unusedVariables false
open Go.RowKit Go.Sl Go.ChangeShapes Go.WideShapes Go.ChangeAt

set_option maxRecDepth 20000 in
theorem mdet_post (H : Type) (enc : TypeId × Value → H) (W : World) (base : Nat) (args : Array Value) (ds gs : List (DataW H)) (before : List MemPlace)
    (hval : ∀ (j : Nat) t v, Tryd.f6.params[j]? = some t → args[j]? = some v → Value.okWide Tryd.prog W .any base t v)
    (hW : DataW.Whole enc Tryd.prog Tryd.f6.params.toList Rows.manifestDetectsLengthSpec.vars false W args.toList ds gs before) (hk : Rows.uptoSmall H (ds ++ gs) = true) (hL : laidMetH Tryd.prog Rows.manifestDetectsLengthUptoRow.laid W) :
    Calls Tryd.prog 6 args W fun e W' => ∃ v, e = .returned v ∧ Rows.manifestDetectsLengthSpec.post enc Tryd.prog Tryd.f6 false true false false W args v W' := by
  have hW' := hW
  obtain ⟨p, q, hA0, hV, rfl, hfz, hnd⟩ := hW
  have hA : DataW.TrodAll enc Tryd.prog W 0 (fun _ => true) true Tryd.f6.params.toList args.toList ds p := hA0
  have hk := small_all hk
  rw [Tryd.params6] at hA hval
  obtain ⟨v0, vs0, d0, ds0, p0, q0, hargs, rfl, rfl, h0, r0⟩ := trodAll_cons hA
  obtain ⟨rfl, rfl, rfl⟩ := trodAll_nil r0
  obtain rfl : args = #[v0] := by cases args; simp_all
  obtain ⟨rfl, rfl⟩ := trodVars_none hV
  simp only [List.append_nil, Rows.uptoBulkAll] at hk
  obtain ⟨c0, u0, rfl, hm0, hR0⟩ := open_din (hval 0 65 v0 rfl rfl) h0 (by omega)
  refine Calls.mono (mdet_k W (St.start W) (glob_of hL) c0 u0 hm0 hR0) fun e W' ⟨v, he, hv, hst⟩ => ?_
  subst hv
  exact ⟨_, he, law_post (tb := 4) rfl hW' (by kernel_rfl) (by rw [Tryd.params6]; intro t ht'; have e : t = 65 := (by simpa using ht'); subst e; exact ⟨by kernel_rfl, of_decide_eq_true (by kernel_rfl)⟩) (by kernel_rfl) (by kernel_rfl) rfl rfl rfl hst.below⟩

abbrev mdet_args : Array Value := #[.agg #[.int .i64 0, .int .i64 0, .int .i64 0, .slice none 0 0, .slice none 0 0, .slice none 0 0, .int .i64 0, .int .i64 0, .int .i64 0, .slice none 0 0, .slice none 0 0, .int .u16 0, .string ⟨#[]⟩]]
theorem mdet_met (os : Os) : laidMet Tryd.prog Rows.manifestDetectsLengthUptoRow.laid ((laidWorld os #[]).forCall (fun _ _ => 0) ⟨#[], mdet_args, []⟩).memory :=
  laidMet_of_run' 8 (by kernel_rfl) (by kernel_rfl)
theorem mdet_reads (os : Os) {H : Type} (enc : TypeId × Value → H) : ∃ places, DataW.whole enc Tryd.prog ((laidWorld os #[]).forCall (fun _ _ => 0) ⟨#[], mdet_args, []⟩).memory Tryd.f6.params.toList Rows.manifestDetectsLengthSpec.vars false mdet_args.toList 8 = some ([.agg [.agg [.agg [.lit (.int .i64 0), .lit (.int .i64 0), .lit (.int .i64 0), .nil], .nil, .nil], .agg [.agg [.lit (.int .i64 0), .lit (.int .i64 0), .lit (.int .i64 0), .nil], .nil], .lit (.int .u16 0), .lit (.string [])]], [], places) :=
  ⟨[], by kernel_rfl⟩

set_option maxRecDepth 100000 in
theorem mdet_lifted (os : Os) (started : os.Started) (H : Type) (enc : TypeId × Value → H) (F : Stop.Interp) :
    ReturnsInHanded {} Tryd.checked os 6 .any ((Rows.OpenSpec.upto Rows.manifestDetectsLengthSpec).preRow enc Tryd.prog Tryd.f6 Rows.manifestDetectsLengthUptoRow.domain false Rows.manifestDetectsLengthUptoRow.laid) (((Rows.OpenSpec.upto Rows.manifestDetectsLengthSpec).at F).post enc Tryd.prog Tryd.f6 false true false false) := by
  obtain ⟨places, hx⟩ := mdet_reads os enc
  refine returnsInHanded_of_row (C := Tryd.checked) (s := Rows.OpenSpec.upto Rows.manifestDetectsLengthSpec) own started (by kernel_rfl) Tryd.func6
    (witness_row_at (enc := enc) (C := Tryd.checked) false (laidWorld os #[]) mdet_args rfl (by kernel_rfl) (by kernel_rfl) (by kernel_rfl)
      (OpenSpec.preRow_of_cond 8 hx (by kernel_rfl) (fun k hk => by cases hk; kernel_rfl) (by kernel_rfl) (mdet_met os))) ?_
  intro W base args ds gs before hval hW _ hc _ hL _ _
  exact mdet_post H enc W base args ds gs before hval hW (hc _ rfl) hL

theorem mdet_said : Rows.ManifestDetectsLengthUptoSaid :=
  OpenClaim.holds_of_cond 6 Tryd.f6 rfl rfl rfl rfl rfl rfl rfl ⟨rfl, rfl, rfl, rfl, rfl⟩ rfl rfl rfl rfl rfl (by kernel_rfl) Tryd.func6 (by kernel_rfl)
    (of_decide_eq_true (by kernel_rfl)) (by unfold Func.isWrapper; first | (rw [if_pos (by decide +kernel)]; kernel_rfl) | (rw [if_neg (by decide +kernel)]; exact ⟨rfl, rfl⟩))
    (fun os started H enc _ F => by rw [OpenClaim.pre_eq_preRow]; exact mdet_lifted os started H enc F)

theorem mdet_plain (f : FuncId) (fn : Func) (hf : Tryd.pinned.checked.prog.funcNamed "bootchain/bootchainlaw23.ManifestDetectsLength" = some f) (hfn : Tryd.pinned.checked.prog.funcs[f]? = some fn) :
    false = Tryd.pinned.checked.prog.looks [] ∧ ∀ (j : Nat) t, fn.params[j]? = some t → Tryd.pinned.checked.prog.wantsStandIn t = false := by
  obtain rfl : f = 6 := Option.some.inj ((show Tryd.prog.funcNamed "bootchain/bootchainlaw23.ManifestDetectsLength" = some 6 by kernel_rfl).symm.trans hf) |>.symm
  obtain rfl : fn = Tryd.f6 := (Option.some.inj (Tryd.func6.symm.trans hfn)).symm
  refine ⟨by kernel_rfl, fun j t ht => ?_⟩
  rw [Tryd.params6] at ht
  have e : t = 65 := by simpa using Array.mem_of_getElem? ht
  subst e
  · exact (show Tryd.prog.wantsStandIn 65 = false by kernel_rfl)

theorem mdet_proved : Rows.ManifestDetectsLengthUptoCardSaid :=
  Claim7.holds_tied_plain_at .later [] _ _ _ _ mdet_said (fun _ h => by cases h) (by kernel_rfl) (fun _ h => by cases h) manifestDetectsLengthUpto_row_tie rfl ⟨rfl, rfl⟩ (by kernel_rfl) rfl mdet_plain (by kernel_rfl)
end Go.Proofs.YtlimhgamebnfeaaDoor
