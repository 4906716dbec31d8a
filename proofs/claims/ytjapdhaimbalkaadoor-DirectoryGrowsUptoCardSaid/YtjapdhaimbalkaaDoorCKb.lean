/- The statement DirectoryGrows. -/
import Derived.Test.YtjapdhaimbalkaaDoorBb
import Derived.Test.YtjapdhaimbalkaaDoorBh

/- The statement DirectoryGrows, walked. -/
--@hgp
--@flat
--@dg
--@ex0
namespace Go.Proofs.YtjapdhaimbalkaaDoor
set_option linter.unusedSimpArgs false
set_option linter.unusedVariables false
open Go.RowKit Go.Sl Go.Srt

theorem whas_c {S M} (w : World) (hst : St S M w) (c1 : List Value) (a : List Fa) (h1 : Rep.R S c1 ((a, ()) : Dir)) (oa : ∀ f ∈ a, FaOk f) (ha : a.length ≤ 1000000) (cs : List Value) (f : Fa) (hR : Rep.R S cs f) (ok : FaOk f) :
    Rets Tryd.prog 23 [.agg c1.toArray, .agg cs.toArray] w fun v w' => v = .bool (hasD a f) ∧ St S M w' := by
  obtain ⟨u1, rfl, k1⟩ := dir_of h1
  exact rhas_c w hst u1 a k1 oa ha cs f hR ok
theorem qt_neq_bself {P : Program} {l : List Value} {S : Snap} {M : List Chunk} {T U : TypeId} {x y : Operand} {a : Bool} (hx : evF l x = .bool a) (hy : evF l y = .bool a) (hT : BoolT P T) : Qt P l (.binOp .neq T x y U) S M (.bool false) := by
  have := qt_neq_bool (P := P) (T := T) (U := U) (S := S) (M := M) hx hy hT
  rwa [bne_self_eq_false] at this
theorem has_nrm {l : List Fa} (ol : ∀ f ∈ l, FaOk f) {x : Fa} (h : x ∈ l) : hasD (nrm l) x = validF x := by
  unfold hasD
  rw [Bool.eq_iff_iff, decide_eq_true_eq, nrm_mem ol]
  exact ⟨fun h => h.2, fun hv => ⟨h, hv⟩⟩

set_option maxRecDepth 60000 in
set_option maxHeartbeats 4000000 in
theorem dgrows_c {S M} (w : World) (hst : St S M w) (hG : Glob S) (c1 c2 c3 : List Value) (a b : List Fa) (f : Fa) (h1 : Rep.R S c1 ((a, ()) : Dir)) (h2 : Rep.R S c2 ((b, ()) : Dir)) (h3 : Rep.R S c3 f) :
    Rets Tryd.prog 6 [.agg c1.toArray, .agg c2.toArray, .agg c3.toArray] w fun v w' => v = .bool true ∧ St S M w' := by
  unfold Rets
  obtain ⟨z1, hz1⟩ : ∃ z, fewD a = z := ⟨_, rfl⟩
  obtain ⟨z2, hz2⟩ : ∃ z, fewD b = z := ⟨_, rfl⟩
  obtain ⟨z3, hz3⟩ : ∃ z, fewD [f] = z := ⟨_, rfl⟩
  have cW1 := fun {S : Snap} {M : List Chunk} (w : World) (hst : St S M w) (cs : List Value) (h : Rep.R S cs ((a, ()) : Dir)) => (wfew_c w hst cs a h).eq hz1
  have cW2 := fun {S : Snap} {M : List Chunk} (w : World) (hst : St S M w) (cs : List Value) (h : Rep.R S cs ((b, ()) : Dir)) => (wfew_c w hst cs b h).eq hz2
  have cW3 := fun {S : Snap} {M : List Chunk} (w : World) (hst : St S M w) (cs : List Value) (h : Rep.R S cs f) => (few1_c w hst cs f h).eq hz3
  by_cases hz : z1 = true ∧ z2 = true ∧ z3 = true
  · obtain ⟨rfl, rfl, rfl⟩ := hz
    obtain ⟨oa, la⟩ := dir_in h1 hz1
    obtain ⟨ob, lb⟩ := dir_in h2 hz2
    have of := fa_in h3 ((fewD_of hz3).2 f (List.mem_singleton.2 rfl))
    clear hz1 hz2 hz3
    have of1 : ∀ g ∈ [f], FaOk g := fun g hg => by obtain rfl := List.mem_singleton.1 hg; exact of
    have lf1 : [f].length = 1 := rfl
    have oL0 := ok_app oa ob
    have lL0 : (a ++ b).length = a.length + b.length := List.length_append
    have lAB := nrm_len (fs := a ++ b)
    have oAB := nrm_ok oL0
    have hmem0 : ∀ (L : List Fa) (k : Nat) (h : k < L.length), L = a ++ b → hasD (nrm (a ++ b)) L[k] = validF L[k] := fun L k h e => by
      subst e; exact has_nrm oL0 (List.getElem_mem h)
    have hback0 : ∀ g ∈ nrm (a ++ b), hasD (a ++ b) g = true := fun g hg => decide_eq_true ((nrm_mem oL0 g).1 hg).1
    have hF0 : validF f = true → hasD (nrm (a ++ [f])) f = true := fun h => (has_nrm (ok_app oa of1) (List.mem_append.2 (.inr (List.mem_singleton.2 rfl)))).trans h
    have oF0 := nrm_ok (ok_app oa of1)
    have lF0 := nrm_len (fs := a ++ [f])
    rw [List.length_append] at lF0
    obtain ⟨L, hL0⟩ : ∃ L, L = a ++ b := ⟨_, rfl⟩
    obtain ⟨AB, gAB⟩ : ∃ F, nrm (a ++ b) = F := ⟨_, rfl⟩
    rw [gAB] at lAB oAB hmem0 hback0
    have hmem := fun k h => Lib.hid (hmem0 L k h hL0)
    have hL := Lib.hid hL0
    have HAB := Lib.hid gAB
    rw [← hL0] at hback0 oL0 lL0 lAB
    have hback := Lib.hid hback0
    clear hmem0 hL0 gAB hback0
    have mL : L.length ≤ 1000000 := by omega
    have mAB : AB.length ≤ 1000000 := by omega
    go_enter Tryd.func6, Tryd.ntmps6
    repeat' ((fail_if_success (with_reducible show Code.wp _ (Code.region 1 _ _) _ _ _)); first | ((fail_if_success (go_big_may)); (go_step)) | (((((refine s_box hst evX rfl ?_; clear hst; intro bx w hst)))) <;> (try refine nX ?_) <;> (try replace hst := nH hst)))
    obtain ⟨S1, hS1, hst1, hpf⟩ := pt_box (α := Fa) (x := f) hst h3 (Rep.len h3)
    clear hst
    obtain ⟨S2, hS2, hst2, hpb⟩ := pt_box (α := Dir) (x := (b, ())) hst1 (Rep.mono hS1 h2) (Rep.len h2)
    clear hst1
    obtain ⟨S3, hS3, hst, hpa⟩ := pt_box (α := Dir) (x := (a, ())) hst2 (Rep.mono (hS1.trans hS2) h1) (Rep.len h1)
    clear hst2
    replace hpf := hpf.mono (hS2.trans hS3)
    replace hpb := hpb.mono hS3
    have hle : S.Le S3 := (hS1.trans hS2).trans hS3
    have hG3 := hG.mono hle
    clear hS1 hS2 hS3 h1 h2 h3
    repeat' ((fail_if_success (with_reducible show Code.wp _ (Code.region 2 _ _) _ _ _)); first | (((with_reducible refine Sl.k_call ?_; ((refine s_call (dsanity_c _ hst hG3) inX rfl ?_; clear hst; rintro v w ⟨rfl, hst⟩)))) <;> (try refine nX ?_) <;> (try replace hst := nH hst)) | ((fail_if_success (go_big_may)); (go_step)))
    repeat' ((fail_if_success (with_reducible show Code.wp _ (Code.region 4 _ _) _ _ _)); first | ((first | (with_reducible (refine Sl.k_load ?_; (first | (refine s_ex hst (qt_ldp (α := Dir) (y := (a, ())) evX hpa inX) ?_; rintro v55 ⟨ca, rfl, hca⟩) | (refine s_ex hst (qt_ldp (α := Dir) (y := (b, ())) evX hpb inX) ?_; rintro v56 ⟨cb, rfl, hcb⟩) | (refine s_ex hst (qt_ldp (y := f) evX hpf inX) ?_; rintro v57 ⟨cf, rfl, hcf⟩)))) | (with_reducible refine Sl.k_guard ?_; ((refine Sl.guard_yes rfl ?_)))) <;> (try refine nX ?_)) | (((with_reducible refine Sl.k_call ?_; (first | (refine s_call (cW1 _ hst ca hca) inX rfl ?_; clear hst; rintro v w ⟨rfl, hst⟩) | (refine s_call (cW2 _ hst cb hcb) inX rfl ?_; clear hst; rintro v w ⟨rfl, hst⟩) | (refine s_call (cW3 _ hst cf hcf) inX rfl ?_; clear hst; rintro v w ⟨rfl, hst⟩)))) <;> (try refine nX ?_) <;> (try replace hst := nH hst)) | ((fail_if_success (go_big_may)); (go_step)) | (with_reducible refine Sl.gate rfl ?_; (go_step)))
    repeat' (first | (((with_reducible (refine Sl.k_load ?_; (first | (refine s_ex hst (qt_ldp (α := Dir) (y := (a, ())) evX hpa inX) ?_; rintro v55 ⟨ca, rfl, hca⟩) | (refine s_ex hst (qt_ldp (α := Dir) (y := (b, ())) evX hpb inX) ?_; rintro v56 ⟨cb, rfl, hcb⟩))))) <;> (try refine nX ?_)) | (((with_reducible refine Sl.k_call ?_; ((refine s_call (wmerge_c _ hst ca cb a b AB hca hcb oa ob (by omega) HAB.out) inX rfl ?_; clear hst; rintro v w ⟨S4, c4, hS4, rfl, hR4, hst⟩)))) <;> (try refine nX ?_) <;> (try replace hst := nH hst)) | ((fail_if_success (go_big_may)); (go_step)) | (((((refine s_alloc hst inX ?_; clear hst; intro bk w hst)))) <;> (try refine nX ?_) <;> (try replace hst := nH hst)))
    refine s_stW0 hst rfl BoxIn.h inX rfl hR4 rfl ?_
    clear hst; intro w hst
    (try refine nX ?_)
    (try replace hst := nH hst)
    repeat' ((fail_if_success (with_reducible show Code.wp _ (Code.region 5 _ _) _ _ _)); ((fail_if_success (go_big_may)); (go_step)))
    obtain ⟨T4, hT4, hst0, hpm⟩ := pt_box (α := Dir) (x := (AB, ())) hst hR4 (Rep.len hR4)
    clear hst
    have hst := hst0
    clear hst0
    replace hle := (hle.trans hS4).trans hT4
    replace hpa := hpa.mono (hS4.trans hT4)
    replace hpb := hpb.mono (hS4.trans hT4)
    replace hpf := hpf.mono (hS4.trans hT4)
    clear hS4 hT4 hR4 hca hcb hcf
    refine ps_begin hst (by kernel_rfl) ?_; clear hst; intro w hst; have hSS := le_of hst; (try refine nX ?_)
    ((refine ps_takex 1 (by repeat (first | exact panicQ_body | refine panicQ_then ?_)) rfl (by kernel_rfl) (by kernel_rfl) (by kernel_rfl) rfl (St.cls hSS hst) (qt_fieldp evX hpa inX inX rfl ) ?_; rintro  v1 hp1)) <;> (try refine nX ?_)
    ((refine ps_takex 2 (by repeat (first | exact panicQ_body | refine panicQ_then ?_)) rfl (by kernel_rfl) (by kernel_rfl) (by kernel_rfl) rfl (St.cls hSS hst) (qt_ldp_list evX hp1 inX ) ?_; rintro  v2 ⟨hv2, hv21⟩; replace hv2 : RSl T4 v2 a := hv2)) <;> (try refine nX ?_)
    ((refine ps_takex 4 (by repeat (first | exact panicQ_body | refine panicQ_then ?_)) rfl (by kernel_rfl) (by kernel_rfl) (by kernel_rfl) rfl (St.cls hSS hst) (qt_fieldp evX hpb inX inX rfl ) ?_; rintro  v4 hp4)) <;> (try refine nX ?_)
    ((refine ps_takex 5 (by repeat (first | exact panicQ_body | refine panicQ_then ?_)) rfl (by kernel_rfl) (by kernel_rfl) (by kernel_rfl) rfl (St.cls hSS hst) (qt_ldp_list evX hp4 inX ) ?_; rintro  v5 ⟨hv5, hv51⟩; replace hv5 : RSl T4 v5 b := hv5)) <;> (try refine nX ?_)
    refine ps_one 0 rfl (by kernel_rfl) ?_; intro K hK; refine s_lit (vs := []) hst inX inX rfl rfl (by simp [Value.cells]) rfl (by omega) (by omega) ?_; clear hst; intro x0 w hst; (try refine nX ?_); (try replace hst := nH hst); refine ps_next hK (St.cls hSS hst) ?_; clear hK K; (try refine nX ?_)
    refine ps_one 3 rfl (by kernel_rfl) ?_; intro K hK; refine s_append_data hst evX evX SlIn.h hv2 inX inX inX (by omega) (by omega) (by decide) ?_; clear hst; intro x3 w d3 hd3 hst; have hone3 := sl_onek (k := 0) hst rfl; (try refine nX ?_); (try replace hst := nH hst); refine ps_next hK (St.cls hSS hst) ?_; clear hK K; (try refine nX ?_)
    refine ps_one 6 rfl (by kernel_rfl) ?_; intro K hK; refine s_append_data hst evX evX SlIn.h hv5 inX inX inX (by omega) (by omega) (by decide) ?_; clear hst; intro x6 w d6 hd6 hst; have hone6 := sl_onek (k := 0) hst rfl; (try refine nX ?_); (try replace hst := nH hst); refine ps_next hK (St.cls hSS hst) ?_; clear hK K; (try refine nX ?_)
    (refine ps_take 7 (by repeat (first | exact panicQ_body | refine panicQ_then ?_)) rfl (by kernel_rfl) (by kernel_rfl) (by kernel_rfl) rfl (St.cls hSS hst) (by exact qt_assign evX) ?_) <;> (try refine nX ?_)
    refine ps_done (by kernel_rfl) ?_
    repeat' ((fail_if_success (with_reducible show Code.wp _ (Code.region 6 _ _) _ _ _)); ((fail_if_success (go_big_may)); (go_step)))
    obtain ⟨S6, hS6, hst, hxs0⟩ := St.freeze (α := Fa) (xs := a ++ b) hst (hd3.append hd6) (by rw [List.length_append])
    have hxs := hxs0
    rw [← hL.out] at hxs
    clear hxs0
    have kx := hxs.oneCell
    replace hle := hle.trans hS6
    replace hpa := hpa.mono hS6
    replace hpb := hpb.mono hS6
    replace hpf := hpf.mono hS6
    replace hpm := hpm.mono hS6
    clear hS6 hSS hp1 hp4 hv2 hv5 hd3 hd6
    repeat' (((fail_if_success (go_big_may)); (go_step)))
    go_loopw [10] (fun v wr => ∃ k : Nat, k ≤ L.length ∧ v = .int .i64 k ∧ St S6 M wr) (fun v _ => L.length - (intOf v).toNat)
    case atStart => exact ⟨0, Nat.zero_le _, rfl, hst⟩
    case round =>
      clear hst
      obtain ⟨k, hk, rfl, hst⟩ := hrel
      by_cases hlt : k < L.length
      · have okk := oL0 _ (List.getElem_mem hlt)
        obtain ⟨y, gy⟩ : ∃ y, validF L[k] = y := ⟨_, rfl⟩
        have gh := (hmem k hlt).out.trans gy
        have cV := fun {S : Snap} {M : List Chunk} (w : World) (hst : St S M w) (cs : List Value) (hR : Rep.R S cs L[k]) => (fvalid_c w hst cs L[k] hR okk).eq gy
        have cH := fun {S : Snap} {M : List Chunk} (w : World) (hst : St S M w) (c1 : List Value) (h1 : Rep.R S c1 ((AB, ()) : Dir)) (cs : List Value) (hR : Rep.R S cs L[k]) => (whas_c w hst c1 AB h1 oAB mAB cs L[k] hR okk).eq gh
        clear gy gh okk
        repeat' (first | ((fail_if_success (go_big_may)); (go_step)) | (((with_reducible refine Sl.k_call ?_; (refine s_qt hst (by exact qt_len evX asX inX) ?_))) <;> (try refine nX ?_)) | (with_reducible refine Sl.gate rfl ?_; (go_step)))
        refine v_begin hst (by kernel_rfl) ?_; clear hst; intro ops; (try refine nX ?_)
        (refine t_qt 0 rfl (by kernel_rfl) rfl rfl (by exact qt_move evX) ?_) <;> (try refine nX ?_)
        (refine t_qt 1 rfl (by kernel_rfl) rfl rfl (by exact qt_move evX) ?_) <;> (try refine nX ?_)
        ((refine t_ex0 2 rfl (by kernel_rfl) rfl rfl (qt_index evX hxs rfl inX inX omX omX ) ?_; rintro  v2 hp2; simp only [Int.toNat_natCast] at hp2)) <;> (try refine nX ?_)
        ((refine t_ex0 3 rfl (by kernel_rfl) rfl rfl (qt_ldp evX hp2 inX ) ?_; rintro  v3 ⟨c3, rfl, hc3⟩)) <;> (try refine nX ?_)
        (refine t_call 4 rfl (by kernel_rfl) rfl (fun S' M' w hS hM hst => cV w hst c3 (Rep.mono hS hc3)) inX rfl ?_) <;> (try refine nX ?_)
        ((refine t_ex0 5 rfl (by kernel_rfl) rfl rfl (qt_ldp (α := Dir) (y := (AB, ())) evX hpm inX ) ?_; rintro  v5 ⟨c5, rfl, hc5⟩)) <;> (try refine nX ?_)
        (refine t_qt 6 rfl (by kernel_rfl) rfl rfl (by exact qt_move evX) ?_) <;> (try refine nX ?_)
        (refine t_qt 7 rfl (by kernel_rfl) rfl rfl (by exact qt_move evX) ?_) <;> (try refine nX ?_)
        ((refine t_ex0 8 rfl (by kernel_rfl) rfl rfl (qt_index evX hxs rfl inX inX omX omX ) ?_; rintro  v8 hp8; simp only [Int.toNat_natCast] at hp8)) <;> (try refine nX ?_)
        ((refine t_ex0 9 rfl (by kernel_rfl) rfl rfl (qt_ldp evX hp8 inX ) ?_; rintro  v9 ⟨c9, rfl, hc9⟩)) <;> (try refine nX ?_)
        (refine t_call 10 rfl (by kernel_rfl) rfl (fun S' M' w hS hM hst => cH w hst c5 (Rep.mono hS hc5) c9 (Rep.mono hS hc9)) inX rfl ?_) <;> (try refine nX ?_)
        (refine t_qt 11 rfl (by kernel_rfl) rfl rfl (qt_neq_bself rfl rfl inX) ?_) <;> (try refine nX ?_)
        refine v_done (by kernel_rfl) ?_; clear ops; intro w hst
        repeat' (first | ((fail_if_success (go_big_may)); (go_step)) | (with_reducible refine Sl.gate rfl ?_; (go_step)))
        go_roundw
        case rel => exact ⟨k + 1, by omega, by go_num, hst⟩
        case measure => simp [intOf]; omega
      · repeat' ((fail_if_success (with_reducible show Code.wp _ (Code.region 12 _ _) _ _ _)); first | ((fail_if_success (go_big_may)); (go_step)) | (((with_reducible refine Sl.k_call ?_; (refine s_qt hst (by exact qt_len evX asX inX) ?_))) <;> (try refine nX ?_)) | (with_reducible refine Sl.gate rfl ?_; (go_step)))
        go_loopw [11] (fun v wr => ∃ k : Nat, k ≤ AB.length ∧ v = .int .i64 k ∧ St S6 M wr) (fun v _ => AB.length - (intOf v).toNat)
        case atStart => exact ⟨0, Nat.zero_le _, rfl, hst⟩
        case round =>
          clear hst
          obtain ⟨k, hk, rfl, hst⟩ := hrel
          by_cases hlt : k < AB.length
          · have okk := oAB _ (List.getElem_mem hlt)
            have gh := hback.out _ (List.getElem_mem hlt)
            have cH := fun {S : Snap} {M : List Chunk} (w : World) (hst : St S M w) (c1 : List Value) (h1 : Rep.R S c1 ((L, ()) : Dir)) (cs : List Value) (hR : Rep.R S cs AB[k]) => (whas_c w hst c1 L h1 oL0 mL cs AB[k] hR okk).eq gh
            clear gh okk
            repeat' (first | ((first | (with_reducible (refine Sl.k_field ?_; refine s_ex hst (qt_fieldp evX hpm inX inX rfl) ?_; rintro vq hpq)) | (with_reducible (refine Sl.k_load ?_; refine s_ex hst (qt_ldp_list evX hpq inX) ?_; rintro vl ⟨hvl, hvl1⟩; replace hvl : RSl S6 vl AB := hvl)) | (with_reducible (refine Sl.k_build ?_; with_unfolding_all refine s_ex hst (qt_buildP (x' := ((L, ()) : Dir)) inX inX nil_dir (.cons (k := 0) (y := L) (r_listD hxs) rfl .nil)) ?_; rintro vz ⟨cz, rfl, hcz⟩))) <;> (try refine nX ?_)) | (((with_reducible refine Sl.k_call ?_; ((refine s_call (cH _ hst cz hcz _ hcl) inX rfl ?_; clear hst; rintro v w ⟨rfl, hst⟩)))) <;> (try refine nX ?_) <;> (try replace hst := nH hst)) | ((fail_if_success (go_big_may)); (go_step)) | ((first | (with_reducible refine Sl.k_load ?_; ((refine s_ex hst (qt_ldp evX asX inX) ?_; rintro v ⟨cl, rfl, hcl⟩))) | (with_reducible refine Sl.k_index ?_; (((refine s_ex hst (qt_index evX asX rfl inX inX omX omX) ?_); rintro v hp; (try simp only [Int.toNat_natCast, Int.toNat_natCast_add_one, Int.reduceToNat] at hp)))) | (with_reducible refine Sl.k_call ?_; (refine s_qt hst (by exact qt_len evX asX inX) ?_))) <;> (try refine nX ?_)) | (with_reducible refine Sl.gate rfl ?_; (go_step)))
            go_roundw
            case rel => exact ⟨k + 1, by omega, by go_num, hst⟩
            case measure => simp [intOf]; omega
          · obtain ⟨y, gy⟩ : ∃ y, validF f = y := ⟨_, rfl⟩
            have cVf := fun {S : Snap} {M : List Chunk} (w : World) (hst : St S M w) (cs : List Value) (hR : Rep.R S cs f) => (fvalid_c w hst cs f hR of).eq gy
            cases y with
            | false =>
              have ge : (if validF f = true then (0 : Int) else 1) = 1 := if_neg (by rw [gy]; simp)
              have gF : (if validF f = true then nrm (a ++ [f]) else []) = [] := if_neg (by rw [gy]; simp)
              repeat' (first | ((first | (with_reducible (refine Sl.k_field ?_; refine s_ex hst (qt_fieldp evX hpm inX inX rfl) ?_; rintro vq hpq)) | (with_reducible (refine Sl.k_load ?_; refine s_ex hst (qt_ldp_list evX hpq inX) ?_; rintro vl ⟨hvl, hvl1⟩; replace hvl : RSl S6 vl AB := hvl)) | (with_reducible (refine Sl.k_load ?_; (first | (refine s_ex hst (qt_ldp (α := Dir) (y := (a, ())) evX hpa inX) ?_; rintro v55 ⟨ca, rfl, hca⟩) | (refine s_ex hst (qt_ldp (y := f) evX hpf inX) ?_; rintro v57 ⟨cf, rfl, hcf⟩))))) <;> (try refine nX ?_)) | (((with_reducible refine Sl.k_call ?_; ((refine s_call (wadd_c _ hst ca a [] hca oa cf f hcf of (by omega) 1 ge gF) inX rfl ?_; clear hst; rintro v w ⟨S7, c7, hS7, rfl, hR7, hst⟩)))) <;> (try refine nX ?_) <;> (try replace hst := nH hst)) | ((fail_if_success (go_big_may)); (go_step)) | (((with_reducible refine Sl.k_call ?_; (refine s_qt hst (by exact qt_len evX asX inX) ?_))) <;> (try refine nX ?_)) | (with_reducible refine Sl.gate rfl ?_; (go_step)) | (((((refine s_alloc hst inX ?_; clear hst; intro bk w hst)))) <;> (try refine nX ?_) <;> (try replace hst := nH hst)))
              refine s_stW0 hst rfl BoxIn.h inX rfl hR7 rfl ?_
              clear hst; intro w hst
              (try refine nX ?_)
              (try replace hst := nH hst)
              repeat' ((fail_if_success (with_reducible show Code.wp _ (Code.region 17 _ _) _ _ _)); ((fail_if_success (go_big_may)); (go_step)))
              obtain ⟨T7, hT7, hst0, hpx⟩ := pt_box (α := Dir) (x := ([], ())) hst hR7 (Rep.len hR7)
              clear hst
              have hst := hst0
              clear hst0
              replace hle := (hle.trans hS7).trans hT7
              replace hpf := hpf.mono (hS7.trans hT7)
              repeat' (first | ((first | (with_reducible (refine Sl.k_field ?_; refine s_ex hst (qt_fieldp evX hpx inX inX rfl) ?_; rintro vq hpq)) | (with_reducible (refine Sl.k_load ?_; (first | (refine s_ex hst (qt_ldp_list evX hpq inX) ?_; rintro vl ⟨hvl, hvl1⟩; replace hvl : RSl T7 vl ([] : List Fa) := hvl) | (refine s_ex hst (qt_ldp (y := f) evX hpf inX) ?_; rintro v57 ⟨cf, rfl, hcf⟩)))) | (with_reducible refine Sl.k_bin ?_; (refine s_qt hst (qt_neq_b rfl rfl (show ((1 : Int) != 0) = true from rfl)) ?_)) | (with_reducible refine Sl.k_guard ?_; ((refine Sl.guard_yes rfl ?_)))) <;> (try refine nX ?_)) | (((with_reducible refine Sl.k_call ?_; ((refine s_call (cVf _ hst cf hcf) inX rfl ?_; clear hst; rintro v w ⟨rfl, hst⟩)))) <;> (try refine nX ?_) <;> (try replace hst := nH hst)) | ((fail_if_success (go_big_may)); (go_step)) | (((with_reducible refine Sl.k_call ?_; (refine s_qt hst (by exact qt_len evX asX inX) ?_))) <;> (try refine nX ?_)) | (with_reducible refine Sl.gate rfl ?_; (go_step)))
              go_ret
              exact ⟨_, rfl, rfl, St.weaken hle hst⟩
            | true =>
              have ge : (if validF f = true then (0 : Int) else 1) = 0 := if_pos gy
              have gh := hF0 gy
              obtain ⟨F, hF⟩ : ∃ F, nrm (a ++ [f]) = F := ⟨_, rfl⟩
              rw [hF] at gh oF0 lF0
              have gF : (if validF f = true then nrm (a ++ [f]) else []) = F := (if_pos gy).trans hF
              have mF : F.length ≤ 1000000 := by omega
              have cH := fun {S : Snap} {M : List Chunk} (w : World) (hst : St S M w) (c1 : List Value) (h1 : Rep.R S c1 ((F, ()) : Dir)) (cs : List Value) (hR : Rep.R S cs f) => (whas_c w hst c1 F h1 oF0 mF cs f hR of).eq gh
              have HF := Lib.hid hF
              have HgF := Lib.hid gF
              clear hF gF gh
              repeat' (first | ((first | (with_reducible (refine Sl.k_field ?_; refine s_ex hst (qt_fieldp evX hpm inX inX rfl) ?_; rintro vq hpq)) | (with_reducible (refine Sl.k_load ?_; refine s_ex hst (qt_ldp_list evX hpq inX) ?_; rintro vl ⟨hvl, hvl1⟩; replace hvl : RSl S6 vl AB := hvl)) | (with_reducible (refine Sl.k_load ?_; (first | (refine s_ex hst (qt_ldp (α := Dir) (y := (a, ())) evX hpa inX) ?_; rintro v55 ⟨ca, rfl, hca⟩) | (refine s_ex hst (qt_ldp (y := f) evX hpf inX) ?_; rintro v57 ⟨cf, rfl, hcf⟩))))) <;> (try refine nX ?_)) | (((with_reducible refine Sl.k_call ?_; ((refine s_call (wadd_c _ hst ca a F hca oa cf f hcf of (by omega) 0 ge HgF.out) inX rfl ?_; clear hst; rintro v w ⟨S7, c7, hS7, rfl, hR7, hst⟩)))) <;> (try refine nX ?_) <;> (try replace hst := nH hst)) | ((fail_if_success (go_big_may)); (go_step)) | (((with_reducible refine Sl.k_call ?_; (refine s_qt hst (by exact qt_len evX asX inX) ?_))) <;> (try refine nX ?_)) | (with_reducible refine Sl.gate rfl ?_; (go_step)) | (((((refine s_alloc hst inX ?_; clear hst; intro bk w hst)))) <;> (try refine nX ?_) <;> (try replace hst := nH hst)))
              refine s_stW0 hst rfl BoxIn.h inX rfl hR7 rfl ?_
              clear hst; intro w hst
              (try refine nX ?_)
              (try replace hst := nH hst)
              repeat' ((fail_if_success (with_reducible show Code.wp _ (Code.region 17 _ _) _ _ _)); ((fail_if_success (go_big_may)); (go_step)))
              obtain ⟨T7, hT7, hst0, hpx⟩ := pt_box (α := Dir) (x := (F, ())) hst hR7 (Rep.len hR7)
              clear hst
              have hst := hst0
              clear hst0
              replace hle := (hle.trans hS7).trans hT7
              replace hpf := hpf.mono (hS7.trans hT7)
              replace hpa := hpa.mono (hS7.trans hT7)
              repeat' (first | (((with_reducible refine Sl.k_bin ?_; (refine s_qt hst (qt_neq_b rfl rfl (show ((0 : Int) != 0) = false from rfl)) ?_))) <;> (try refine nX ?_)) | ((fail_if_success (go_big_may)); (go_step)))
              refine ps_begin hst (by kernel_rfl) ?_; clear hst; intro w hst; have hSS := le_of hst; (try refine nX ?_)
              (refine ps_take 0 (by repeat (first | exact panicQ_body | refine panicQ_then ?_)) rfl (by kernel_rfl) (by kernel_rfl) (by kernel_rfl) rfl (St.cls hSS hst) (by exact qt_move evX) ?_) <;> (try refine nX ?_)
              (refine ps_take 1 (by repeat (first | exact panicQ_body | refine panicQ_then ?_)) rfl (by kernel_rfl) (by kernel_rfl) (by kernel_rfl) rfl (St.cls hSS hst) (by exact qt_move evX) ?_) <;> (try refine nX ?_)
              (((refine ps_takex 2 (by repeat (first | exact panicQ_body | refine panicQ_then ?_)) rfl (by kernel_rfl) (by kernel_rfl) (by kernel_rfl) rfl (St.cls hSS hst) (qt_ldp (α := Dir) (y := (F, ())) evX hpx inX ) ?_; rintro  v2 ⟨c2, rfl, hc2⟩))) <;> (try refine nX ?_)
              (((refine ps_takex 3 (by repeat (first | exact panicQ_body | refine panicQ_then ?_)) rfl (by kernel_rfl) (by kernel_rfl) (by kernel_rfl) rfl (St.cls hSS hst) (qt_ldp (y := f) evX hpf inX ) ?_; rintro  v3 ⟨c3, rfl, hc3⟩))) <;> (try refine nX ?_)
              refine ps_one 4 rfl (by kernel_rfl) ?_; intro K hK; refine Sl.guard_yes rfl ?_; refine s_call (cH w hst c2 (Rep.mono hSS hc2) c3 (Rep.mono hSS hc3)) inX rfl ?_; clear hst; rintro v4 w ⟨rfl, hst⟩; (try refine nX ?_); (try replace hst := nH hst); refine ps_next hK (St.cls hSS hst) ?_; clear hK K; (try refine nX ?_)
              (refine ps_take 5 (by repeat (first | exact panicQ_body | refine panicQ_then ?_)) rfl (by kernel_rfl) (by kernel_rfl) (by kernel_rfl) rfl (St.cls hSS hst) (by exact qt_pick_t rfl evX) ?_) <;> (try refine nX ?_)
              (refine ps_take 6 (by repeat (first | exact panicQ_body | refine panicQ_then ?_)) rfl (by kernel_rfl) (by kernel_rfl) (by kernel_rfl) rfl (St.cls hSS hst) (by exact qt_move evX) ?_) <;> (try refine nX ?_)
              (((refine ps_takex 7 (by repeat (first | exact panicQ_body | refine panicQ_then ?_)) rfl (by kernel_rfl) (by kernel_rfl) (by kernel_rfl) rfl (St.cls hSS hst) (qt_ldp (α := Dir) (y := (F, ())) evX hpx inX ) ?_; rintro  v7 ⟨c7, rfl, hc7⟩))) <;> (try refine nX ?_)
              (((refine ps_takex 8 (by repeat (first | exact panicQ_body | refine panicQ_then ?_)) rfl (by kernel_rfl) (by kernel_rfl) (by kernel_rfl) rfl (St.cls hSS hst) (qt_ldp (α := Dir) (y := (a, ())) evX hpa inX ) ?_; rintro  v8 ⟨c8, rfl, hc8⟩))) <;> (try refine nX ?_)
              (((refine ps_takex 9 (by repeat (first | exact panicQ_body | refine panicQ_then ?_)) rfl (by kernel_rfl) (by kernel_rfl) (by kernel_rfl) rfl (St.cls hSS hst) (qt_ldp (y := f) evX hpf inX ) ?_; rintro  v9 ⟨c9, rfl, hc9⟩))) <;> (try refine nX ?_)
              refine ps_one 10 rfl (by kernel_rfl) ?_; intro K hK; refine Sl.guard_yes rfl ?_; refine s_lit (vs := [.agg c9.toArray]) (cs := c9) hst inX inX rfl rfl (by simp [Value.cells]; exact Rep.len hc9) (by simp [Value.cells]) (by omega) (by omega) ?_; clear hst; intro x10 w hst; (try refine nX ?_); obtain ⟨S10, hS10, hst, hx10⟩ := St.freeze (α := Fa) (xs := [f]) hst (RL.one_mk (Rep.mono hSS hc9)) rfl; (try refine nX ?_); (try replace hst := nH hst); replace hSS := hSS.trans hS10; refine ps_next hK (St.cls hSS hst) ?_; clear hK K; (try refine nX ?_)
              refine ps_one 11 rfl (by kernel_rfl) ?_; intro K hK; refine Sl.guard_yes rfl ?_; refine s_ex hst (qt_buildP (x' := (([f], ()) : Dir)) inX inX nil_dir (.cons (k := 0) (y := [f]) (r_listD hx10) rfl .nil)) ?_; rintro v11 ⟨c11, rfl, hc11⟩; (try refine nX ?_); (try replace hst := nH hst); refine ps_next hK (St.cls hSS hst) ?_; clear hK K; (try refine nX ?_)
              refine ps_one 12 rfl (by kernel_rfl) ?_; intro K hK; refine Sl.guard_yes rfl ?_; refine s_call (wmerge_c w hst c8 c11 a [f] F (Rep.mono hSS hc8) hc11 oa of1 (by omega) HF.out) inX rfl ?_; clear hst; rintro v12 w ⟨S12, k12, hS12, rfl, hR12, hst⟩; (try refine nX ?_); (try replace hst := nH hst); replace hSS := hSS.trans hS12; refine ps_next hK (St.cls hSS hst) ?_; clear hK K; (try refine nX ?_)
              refine ps_one 13 rfl (by kernel_rfl) ?_; intro K hK; refine Sl.guard_yes rfl ?_; refine s_call (wsame_yes w hst c7 k12 F (Rep.mono hSS hc7) hR12 oF0 mF) inX rfl ?_; clear hst; rintro v13 w ⟨rfl, hst⟩; (try refine nX ?_); (try replace hst := nH hst); refine ps_next hK (St.cls hSS hst) ?_; clear hK K; (try refine nX ?_)
              (refine ps_take 14 (by repeat (first | exact panicQ_body | refine panicQ_then ?_)) rfl (by kernel_rfl) (by kernel_rfl) (by kernel_rfl) rfl (St.cls hSS hst) (by exact qt_pick_t rfl evX) ?_) <;> (try refine nX ?_)
              (refine ps_take 15 (by repeat (first | exact panicQ_body | refine panicQ_then ?_)) rfl (by kernel_rfl) (by kernel_rfl) (by kernel_rfl) rfl (St.cls hSS hst) (by exact qt_assign evX) ?_) <;> (try refine nX ?_)
              refine ps_done (by kernel_rfl) ?_
              repeat' (((fail_if_success (go_big_may)); (go_step)))
              go_ret
              exact ⟨_, rfl, rfl, St.weaken (hle.trans hSS) hst⟩
  · have hz : z1 = false ∨ (z1 = true ∧ z2 = false) ∨ (z1 = true ∧ z2 = true ∧ z3 = false) := by
      revert hz; cases z1 <;> cases z2 <;> cases z3 <;> simp
    clear hz1 hz2 hz3
    rcases hz with rfl | ⟨rfl, rfl⟩ | ⟨rfl, rfl, rfl⟩
    all_goals
      go_enter Tryd.func6, Tryd.ntmps6
      repeat' ((fail_if_success (with_reducible show Code.wp _ (Code.region 1 _ _) _ _ _)); first | ((fail_if_success (go_big_may)); (go_step)) | (((((refine s_box hst evX rfl ?_; clear hst; intro bx w hst)))) <;> (try refine nX ?_) <;> (try replace hst := nH hst)))
      obtain ⟨S1, hS1, hst1, hpf⟩ := pt_box (α := Fa) (x := f) hst h3 (Rep.len h3)
      clear hst
      obtain ⟨S2, hS2, hst2, hpb⟩ := pt_box (α := Dir) (x := (b, ())) hst1 (Rep.mono hS1 h2) (Rep.len h2)
      clear hst1
      obtain ⟨S3, hS3, hst, hpa⟩ := pt_box (α := Dir) (x := (a, ())) hst2 (Rep.mono (hS1.trans hS2) h1) (Rep.len h1)
      clear hst2
      replace hpf := hpf.mono (hS2.trans hS3)
      replace hpb := hpb.mono hS3
      have hle : S.Le S3 := (hS1.trans hS2).trans hS3
      have hG3 := hG.mono hle
      clear hS1 hS2 hS3 h1 h2 h3
      repeat' ((fail_if_success (with_reducible show Code.wp _ (Code.region 2 _ _) _ _ _)); first | (((with_reducible refine Sl.k_call ?_; ((refine s_call (dsanity_c _ hst hG3) inX rfl ?_; clear hst; rintro v w ⟨rfl, hst⟩)))) <;> (try refine nX ?_) <;> (try replace hst := nH hst)) | ((fail_if_success (go_big_may)); (go_step)))
      repeat' (first | go_skip | ((first | (with_reducible (refine Sl.k_load ?_; (first | (refine s_ex hst (qt_ldp (α := Dir) (y := (a, ())) evX hpa inX) ?_; rintro v55 ⟨ca, rfl, hca⟩) | (refine s_ex hst (qt_ldp (α := Dir) (y := (b, ())) evX hpb inX) ?_; rintro v56 ⟨cb, rfl, hcb⟩) | (refine s_ex hst (qt_ldp (y := f) evX hpf inX) ?_; rintro v57 ⟨cf, rfl, hcf⟩)))) | (with_reducible refine Sl.k_guard ?_; ((refine Sl.guard_yes rfl ?_)))) <;> (try refine nX ?_)) | (((with_reducible refine Sl.k_call ?_; (first | (refine s_call (cW1 _ hst ca hca) inX rfl ?_; clear hst; rintro v w ⟨rfl, hst⟩) | (refine s_call (cW2 _ hst cb hcb) inX rfl ?_; clear hst; rintro v w ⟨rfl, hst⟩) | (refine s_call (cW3 _ hst cf hcf) inX rfl ?_; clear hst; rintro v w ⟨rfl, hst⟩)))) <;> (try refine nX ?_) <;> (try replace hst := nH hst)) | ((fail_if_success (go_big_may)); (go_step)) | (with_reducible refine Sl.gate rfl ?_; (go_step)))
      go_ret
      exact ⟨_, rfl, rfl, St.weaken hle hst⟩
theorem dgrowsK_c {S M} (w : World) (hst : St S M w) (hG : Glob S) (c1 : List Value) (a : Dir) (h1 : Rep.R S c1 a) (c2 : List Value) (b : Dir) (h2 : Rep.R S c2 b) (c3 : List Value) (f : Fa) (h3 : Rep.R S c3 f) :
    Rets Tryd.prog 6 [.agg c1.toArray, .agg c2.toArray, .agg c3.toArray] w fun v w' => v = .bool true ∧ St S M w' := by
  obtain ⟨a, ⟨⟩⟩ := a
  obtain ⟨b, ⟨⟩⟩ := b
  exact dgrows_c w hst hG c1 c2 c3 a b f h1 h2 h3
end Go.Proofs.YtjapdhaimbalkaaDoor

/- The statement DirectoryGrows. -/
namespace Go.Proofs.YtjapdhaimbalkaaDoor
set_option linter.unusedSimpArgs false
set_option linter.unusedVariables false
open Go.RowKit Go.Sl Go.ChangeShapes Go.WideShapes Go.ChangeAt

set_option maxRecDepth 20000 in
theorem dgrows_post (H : Type) (enc : TypeId × Value → H) (W : World) (base : Nat) (args : Array Value) (ds gs : List (DataW H)) (before : List MemPlace)
    (hval : ∀ (j : Nat) t v, Tryd.f6.params[j]? = some t → args[j]? = some v → Value.okWide Tryd.prog W .any base t v)
    (hW : DataW.Whole enc Tryd.prog Tryd.f6.params.toList Rows.directoryGrowsSpec.vars false W args.toList ds gs before) (hk : Rows.uptoSmall H (ds ++ gs) = true) (hL : laidMetH Tryd.prog Rows.directoryGrowsUptoRow.laid W) :
    Calls Tryd.prog 6 args W fun e W' => ∃ v, e = .returned v ∧ Rows.directoryGrowsSpec.post enc Tryd.prog Tryd.f6 false true false false W args v W' := by
  have hW' := hW
  obtain ⟨p, q, hA0, hV, rfl, hfz, hnd⟩ := hW
  have hA : DataW.TrodAll enc Tryd.prog W 0 (fun _ => true) true Tryd.f6.params.toList args.toList ds p := hA0
  have hk := small_all hk
  rw [Tryd.params6] at hA hval
  obtain ⟨v0, vs0, d0, ds0, p0, q0, hargs, rfl, rfl, h0, r0⟩ := trodAll_cons hA
  obtain ⟨v1, vs1, d1, ds1, p1, q1, rfl, rfl, rfl, h1, r1⟩ := trodAll_cons r0
  obtain ⟨v2, vs2, d2, ds2, p2, q2, rfl, rfl, rfl, h2, r2⟩ := trodAll_cons r1
  obtain ⟨rfl, rfl, rfl⟩ := trodAll_nil r2
  obtain rfl : args = #[v0, v1, v2] := by cases args; simp_all
  obtain ⟨rfl, rfl⟩ := trodVars_none hV
  simp only [List.append_nil, Rows.uptoBulkAll] at hk
  obtain ⟨c0, u0, rfl, hR0⟩ := open_dir (hval 0 27 v0 rfl rfl) h0
  obtain ⟨c1, u1, rfl, hR1⟩ := open_dir (hval 1 27 v1 rfl rfl) h1
  obtain ⟨c2, u2, rfl, hR2⟩ := open_fa (hval 2 34 v2 rfl rfl) h2
  refine Calls.mono (dgrowsK_c W (St.start W) (glob_of hL) c0 u0 hR0 c1 u1 hR1 c2 u2 hR2) fun e W' ⟨v, he, hv, hst⟩ => ?_
  subst hv
  exact ⟨_, he, law_post (tb := 4) rfl hW' (by kernel_rfl) (by rw [Tryd.params6]; intro t ht'; have e : t = 27 ∨ t = 34 := (by simpa using ht'); rcases e with rfl | rfl <;> exact ⟨by kernel_rfl, of_decide_eq_true (by kernel_rfl)⟩) (by kernel_rfl) (by kernel_rfl) rfl rfl rfl hst.below⟩

abbrev dgrows_args : Array Value := #[.agg #[.slice none 0 0], .agg #[.slice none 0 0], .agg #[.int .i64 0, .string ⟨#[]⟩, .int .i64 0, .int .i64 0, .int .i64 0, .slice none 0 0, .int .u8 0, .int .u8 0, .int .u8 0, .int .u8 0, .int .u8 0, .int .u8 0, .int .u8 0, .int .u8 0, .int .u8 0, .int .u8 0, .int .u8 0, .int .u8 0, .int .u8 0, .int .u8 0, .int .u8 0, .int .u8 0]]
theorem dgrows_met (os : Os) : laidMet Tryd.prog Rows.directoryGrowsUptoRow.laid ((laidWorld os #[]).forCall (fun _ _ => 0) ⟨#[], dgrows_args, []⟩).memory :=
  laidMet_of_run' 8 (by kernel_rfl) (by kernel_rfl)
theorem dgrows_reads (os : Os) {H : Type} (enc : TypeId × Value → H) : ∃ places, DataW.whole enc Tryd.prog ((laidWorld os #[]).forCall (fun _ _ => 0) ⟨#[], dgrows_args, []⟩).memory Tryd.f6.params.toList Rows.directoryGrowsSpec.vars false dgrows_args.toList 8 = some ([.agg [.nil], .agg [.nil], .agg [.lit (.int .i64 0), .lit (.string []), .agg [.lit (.int .i64 0), .lit (.int .i64 0), .lit (.int .i64 0), .nil], .agg [.lit (.int .u8 0), .lit (.int .u8 0), .lit (.int .u8 0), .lit (.int .u8 0), .lit (.int .u8 0), .lit (.int .u8 0), .lit (.int .u8 0), .lit (.int .u8 0), .lit (.int .u8 0), .lit (.int .u8 0), .lit (.int .u8 0), .lit (.int .u8 0), .lit (.int .u8 0), .lit (.int .u8 0), .lit (.int .u8 0), .lit (.int .u8 0)]]], [], places) :=
  ⟨[], by kernel_rfl⟩

set_option maxRecDepth 100000 in
theorem dgrows_lifted (os : Os) (started : os.Started) (H : Type) (enc : TypeId × Value → H) (F : Stop.Interp) :
    ReturnsInHanded {} Tryd.checked os 6 .any ((Rows.OpenSpec.upto Rows.directoryGrowsSpec).preRow enc Tryd.prog Tryd.f6 Rows.directoryGrowsUptoRow.domain false Rows.directoryGrowsUptoRow.laid) (((Rows.OpenSpec.upto Rows.directoryGrowsSpec).at F).post enc Tryd.prog Tryd.f6 false true false false) := by
  obtain ⟨places, hx⟩ := dgrows_reads os enc
  refine returnsInHanded_of_row (C := Tryd.checked) (s := Rows.OpenSpec.upto Rows.directoryGrowsSpec) own started (by kernel_rfl) Tryd.func6
    (witness_row_at (enc := enc) (C := Tryd.checked) false (laidWorld os #[]) dgrows_args rfl (by kernel_rfl) (by kernel_rfl) (by kernel_rfl)
      (OpenSpec.preRow_of_cond 8 hx (by kernel_rfl) (fun k hk => by cases hk; kernel_rfl) (by kernel_rfl) (dgrows_met os))) ?_
  intro W base args ds gs before hval hW _ hc _ hL _ _
  exact dgrows_post H enc W base args ds gs before hval hW (hc _ rfl) hL

theorem dgrows_said : Rows.DirectoryGrowsUptoSaid :=
  OpenClaim.holds_of_cond 6 Tryd.f6 rfl rfl rfl rfl rfl rfl rfl ⟨rfl, rfl, rfl, rfl, rfl⟩ rfl rfl rfl rfl rfl (by kernel_rfl) Tryd.func6 (by kernel_rfl)
    (of_decide_eq_true (by kernel_rfl)) (by unfold Func.isWrapper; first | (rw [if_pos (by decide +kernel)]; kernel_rfl) | (rw [if_neg (by decide +kernel)]; exact ⟨rfl, rfl⟩))
    (fun os started H enc _ F => by rw [OpenClaim.pre_eq_preRow]; exact dgrows_lifted os started H enc F)

theorem dgrows_plain (f : FuncId) (fn : Func) (hf : Tryd.pinned.checked.prog.funcNamed "bootchain/bootchainlaw36.DirectoryGrows" = some f) (hfn : Tryd.pinned.checked.prog.funcs[f]? = some fn) :
    false = Tryd.pinned.checked.prog.looks [] ∧ ∀ (j : Nat) t, fn.params[j]? = some t → Tryd.pinned.checked.prog.wantsStandIn t = false := by
  obtain rfl : f = 6 := Option.some.inj ((show Tryd.prog.funcNamed "bootchain/bootchainlaw36.DirectoryGrows" = some 6 by kernel_rfl).symm.trans hf) |>.symm
  obtain rfl : fn = Tryd.f6 := (Option.some.inj (Tryd.func6.symm.trans hfn)).symm
  refine ⟨by kernel_rfl, fun j t ht => ?_⟩
  rw [Tryd.params6] at ht
  have e : t = 27 ∨ t = 34 := by simpa using Array.mem_of_getElem? ht
  rcases e with rfl | rfl
  · exact (show Tryd.prog.wantsStandIn 27 = false by kernel_rfl)
  · exact (show Tryd.prog.wantsStandIn 34 = false by kernel_rfl)

theorem dgrows_proved : Rows.DirectoryGrowsUptoCardSaid :=
  Claim7.holds_tied_plain_at .later [] _ _ _ _ dgrows_said (fun _ h => by cases h) (by kernel_rfl) (fun _ h => by cases h) directoryGrowsUpto_row_tie rfl ⟨rfl, rfl⟩ (by kernel_rfl) rfl dgrows_plain (by kernel_rfl)
end Go.Proofs.YtjapdhaimbalkaaDoor
