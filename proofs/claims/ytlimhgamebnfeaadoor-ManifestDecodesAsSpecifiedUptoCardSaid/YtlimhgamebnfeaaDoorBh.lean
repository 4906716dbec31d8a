/- The references' comparisons of manifests, bundles and rotations; what comes in. -/
import Derived.Test.YtlimhgamebnfeaaDoorBb
import Derived.Test.YtlimhgamebnfeaaDoorBf
import Derived.Test.YtlimhgamebnfeaaDoorBc
import Derived.Test.YtlimhgamebnfeaaDoorBg

/- Package manifest: what is small enough, as the references have it. -/
--@hgp
--@flat
--@dg
--@ex0
namespace Go.Proofs.YtlimhgamebnfeaaDoor
set_option linter.unusedSimpArgs false
set_option linter.unusedVariables false
open Go.RowKit Go.Sl

set_option maxRecDepth 8000 in
set_option maxHeartbeats 1000000 in
theorem smallS_c {S M} (w : World) (hst : St S M w) (cs : List Value) (g : SG) (hR : Rep.R S cs g) :
    Rets Tryd.prog 39 [.agg cs.toArray] w fun v w' => v = .bool (smallM g) ∧ St S M w' := by
  unfold Rets smallM
  by_cases h1 : g.2.1.length ≤ 100 <;> by_cases h2 : g.2.2.1.length ≤ 20
  all_goals
    go_enter Tryd.func39, Tryd.ntmps39
    repeat' ((fail_if_success (with_reducible show Code.wp _ (Code.region 1 _ _) _ _ _)); first | ((fail_if_success (go_big_may)); (go_step)) | (((((refine s_box hst evX rfl ?_; clear hst; intro bx w hst)))) <;> (try refine nX ?_) <;> (try replace hst := nH hst)))
    obtain ⟨S1, hS1, hst, hpe⟩ := pt_box (α := SG) hst hR (Rep.len hR)
    repeat' (first | go_skip | ((first | (with_reducible (refine Sl.k_field ?_; refine s_ex hst (qt_fieldp evX hpe inX inX rfl) ?_; rintro vf hpf)) | (with_reducible refine Sl.k_guard ?_; (first | (refine Sl.guard_yes rfl ?_) | (refine Sl.guard_cases rfl ?_ ?_ <;> intro hg <;> first | (exfalso; simp only [decide_eq_true_eq, decide_eq_false_iff_not, Bool.not_false, Bool.not_true, beq_iff_eq, beq_eq_false_iff_ne, ne_eq] at hg; omega) | (simp only [hg, Bool.not_true, Bool.not_false])) <;> (try simp only [decide_eq_true_eq, decide_eq_false_iff_not, Bool.not_false, Bool.not_true, beq_iff_eq, beq_eq_false_iff_ne, bne_iff_ne, bne_eq_false_iff_eq, ne_eq] at hg)))) <;> (try refine nX ?_)) | ((fail_if_success (go_big_may)); (go_step)) | ((first | (with_reducible refine Sl.k_load ?_; ((refine s_ex hst (qt_ldp_list evX asX inX) ?_; rintro v ⟨hvl, hv1⟩))) | (with_reducible refine Sl.k_call ?_; (refine s_qt hst (by exact qt_len evX asX inX) ?_))) <;> (try refine nX ?_)) | (with_reducible refine Sl.gate rfl ?_; (go_step)))
    go_ret
    exact ⟨_, rfl, by simp [h1, h2] <;> omega, St.weaken hS1 hst⟩
theorem few_no {u : BU} (h : ¬ FewP u) : fewM u = false := by
  cases e : fewM u with
  | false => rfl
  | true => exact (h (fewM_of e)).elim
theorem few_yes {u : BU} (h : FewP u) : fewM u = true := by
  simp only [fewM, Bool.and_eq_true, decide_eq_true_eq, List.all_eq_true]
  exact ⟨⟨⟨h.a, h.b, h.c⟩, h.d⟩, h.e⟩
set_option maxRecDepth 8000 in
set_option maxHeartbeats 2000000 in
theorem few_c {S M} (w : World) (hst : St S M w) (cs : List Value) (u : BU) (hR : Rep.R S cs u) :
    Rets Tryd.prog 10 [.agg cs.toArray] w fun v w' => v = .bool (fewM u) ∧ St S M w' := by
  unfold Rets
  by_cases h1 : u.1.2.2.2.1.length ≤ 10
  · by_cases h2 : u.2.1.length ≤ 6
    · by_cases h3 : u.2.2.1.length ≤ 6
      · go_enter Tryd.func10, Tryd.ntmps10
        repeat' ((fail_if_success (with_reducible show Code.wp _ (Code.region 1 _ _) _ _ _)); first | ((fail_if_success (go_big_may)); (go_step)) | (((((refine s_box hst evX rfl ?_; clear hst; intro bx w hst)))) <;> (try refine nX ?_) <;> (try replace hst := nH hst)))
        obtain ⟨S1, hS1, hst, hpe⟩ := pt_box (α := BU) hst hR (Rep.len hR)
        repeat' (first | ((first | (with_reducible (refine Sl.k_field ?_; refine s_ex hst (qt_fieldp evX hpe inX inX rfl) ?_; rintro vf hpf)) | (with_reducible refine Sl.k_guard ?_; (first | (refine Sl.guard_yes rfl ?_) | (refine Sl.guard_cases rfl ?_ ?_ <;> intro hg <;> first | (exfalso; simp only [decide_eq_true_eq, decide_eq_false_iff_not, Bool.not_false, Bool.not_true, beq_iff_eq, beq_eq_false_iff_ne, ne_eq] at hg; omega) | (simp only [hg, Bool.not_true, Bool.not_false])) <;> (try simp only [decide_eq_true_eq, decide_eq_false_iff_not, Bool.not_false, Bool.not_true, beq_iff_eq, beq_eq_false_iff_ne, bne_iff_ne, bne_eq_false_iff_eq, ne_eq] at hg)))) <;> (try refine nX ?_)) | ((fail_if_success (go_big_may)); (go_step)) | ((first | (with_reducible refine Sl.k_load ?_; ((refine s_ex hst (qt_ldp_list evX asX inX) ?_; rintro v ⟨hvl, hv1⟩))) | (with_reducible refine Sl.k_field ?_; (((refine s_ex hst (qt_fieldp evX asX inX inX rfl) ?_); rintro v hp; (try simp only [Int.toNat_natCast, Int.toNat_natCast_add_one, Int.reduceToNat] at hp)))) | (with_reducible refine Sl.k_call ?_; (refine s_qt hst (by exact qt_len evX asX inX) ?_))) <;> (try refine nX ?_)) | (with_reducible refine Sl.gate rfl ?_; (go_step)))
        go_loopw [3] (fun v wr => ∃ k : Nat, k ≤ u.2.2.1.length ∧ v = .int .i64 (k : Nat) ∧ (∀ j (h : j < u.2.2.1.length), j < k → u.2.2.1[j].b.length ≤ 600) ∧ St S1 M wr) (fun v _ => u.2.2.1.length - (intOf v).toNat)
        case atStart => exact ⟨0, Nat.zero_le _, rfl, fun j _ h => by omega, hst⟩
        case round =>
          clear hst
          obtain ⟨k, hk, rfl, hpre, hst⟩ := hrel
          have Hpre := Lib.hid hpre
          clear hpre
          by_cases hlt : k < u.2.2.1.length
          · by_cases hx : u.2.2.1[k].b.length ≤ 600
            · repeat' (first | (((with_reducible (refine Sl.k_field ?_; refine s_ex hst (qt_fieldp evX hpe inX inX rfl) ?_; rintro vf hpf))) <;> (try refine nX ?_)) | ((fail_if_success (go_big_may)); (go_step)) | ((first | (with_reducible refine Sl.k_load ?_; (first | (refine s_ex hst (qt_ldp_str evX asX inX) ?_; rintro v ⟨rfl, hs⟩) | (refine s_ex hst (qt_ldp_list evX asX inX) ?_; rintro v ⟨hvl, hv1⟩))) | (with_reducible refine Sl.k_index ?_; (((refine s_ex hst (qt_index evX asX rfl inX inX omX omX) ?_); rintro v hp; (try simp only [Int.toNat_natCast, Int.toNat_natCast_add_one, Int.reduceToNat] at hp)))) | (with_reducible refine Sl.k_call ?_; (refine s_qt hst (by first | exact qt_len evX asX inX | exact qt_len_str evX inX) ?_))) <;> (try refine nX ?_)) | (with_reducible refine Sl.gate rfl ?_; (go_step)))
              go_roundw
              case rel => exact ⟨k + 1, by omega, by go_num, fun j hj h => (by rcases Nat.lt_succ_iff_lt_or_eq.1 h with h | rfl; exact Hpre.out j hj h; exact hx), hst⟩
              case measure => simp [intOf]; omega
            · repeat' (first | (((with_reducible (refine Sl.k_field ?_; refine s_ex hst (qt_fieldp evX hpe inX inX rfl) ?_; rintro vf hpf))) <;> (try refine nX ?_)) | ((fail_if_success (go_big_may)); (go_step)) | ((first | (with_reducible refine Sl.k_load ?_; (first | (refine s_ex hst (qt_ldp_str evX asX inX) ?_; rintro v ⟨rfl, hs⟩) | (refine s_ex hst (qt_ldp_list evX asX inX) ?_; rintro v ⟨hvl, hv1⟩))) | (with_reducible refine Sl.k_index ?_; (((refine s_ex hst (qt_index evX asX rfl inX inX omX omX) ?_); rintro v hp; (try simp only [Int.toNat_natCast, Int.toNat_natCast_add_one, Int.reduceToNat] at hp)))) | (with_reducible refine Sl.k_call ?_; (refine s_qt hst (by first | exact qt_len evX asX inX | exact qt_len_str evX inX) ?_))) <;> (try refine nX ?_)) | (with_reducible refine Sl.gate rfl ?_; (go_step)))
              go_ret
              exact ⟨_, rfl, by rw [few_no fun h => hx (h.d _ (List.getElem_mem hlt))]; rfl, St.weaken hS1 hst⟩
          · have hd : ∀ s ∈ u.2.2.1, s.b.length ≤ 600 := fun s hs => by
              obtain ⟨j, hj, rfl⟩ := List.mem_iff_getElem.1 hs
              exact Hpre.out j hj (by omega)
            have Hd := Lib.hid hd
            clear hd Hpre
            repeat' (first | (((with_reducible (refine Sl.k_field ?_; refine s_ex hst (qt_fieldp evX hpe inX inX rfl) ?_; rintro vf hpf))) <;> (try refine nX ?_)) | ((fail_if_success (go_big_may)); (go_step)) | ((first | (with_reducible refine Sl.k_load ?_; ((refine s_ex hst (qt_ldp_list evX asX inX) ?_; rintro v ⟨hvl, hv1⟩))) | (with_reducible refine Sl.k_call ?_; (refine s_qt hst (by exact qt_len evX asX inX) ?_))) <;> (try refine nX ?_)) | (with_reducible refine Sl.gate rfl ?_; (go_step)))
            go_loopw [4, 5] (fun v _ wr => ∃ k : Nat, k ≤ u.2.1.length ∧ v = .int .i64 (k : Nat) ∧ (∀ j (h : j < u.2.1.length), j < k → smallM u.2.1[j].2.1 = true) ∧ St S1 M wr) (fun v _ _ => u.2.1.length - (intOf v).toNat)
            case atStart => exact ⟨0, Nat.zero_le _, rfl, fun j _ h => by omega, hst⟩
            case round =>
              clear hst
              obtain ⟨k, hk, rfl, hpre, hst⟩ := hrel
              have Hpre := Lib.hid hpre
              clear hpre
              by_cases hlt : k < u.2.1.length
              · have cS := fun {M : List Chunk} (w : World) (hst : St S1 M w) (cs : List Value) (hR : Rep.R S1 cs u.2.1[k].2.1) => smallS_c w hst cs _ hR
                obtain ⟨z, hz⟩ : ∃ z, smallM u.2.1[k].2.1 = z := ⟨_, rfl⟩
                rw [hz] at cS
                cases z with
                | true =>
                  repeat' (first | (((with_reducible (refine Sl.k_field ?_; refine s_ex hst (qt_fieldp evX hpe inX inX rfl) ?_; rintro vf hpf))) <;> (try refine nX ?_)) | (((with_reducible refine Sl.k_call ?_; ((refine s_call (cS _ hst _ hcl) inX rfl ?_; clear hst; rintro v w ⟨rfl, hst⟩)))) <;> (try refine nX ?_) <;> (try replace hst := nH hst)) | ((fail_if_success (go_big_may)); (go_step)) | ((first | (with_reducible refine Sl.k_load ?_; (first | (refine s_ex hst (qt_ldp_list evX asX inX) ?_; rintro v ⟨hvl, hv1⟩) | (refine s_ex hst (qt_ldp evX asX inX) ?_; rintro v ⟨cl, rfl, hcl⟩))) | (with_reducible refine Sl.k_field ?_; (((refine s_ex hst (qt_fieldp evX asX inX inX rfl) ?_); rintro v hp; (try simp only [Int.toNat_natCast, Int.toNat_natCast_add_one, Int.reduceToNat] at hp)))) | (with_reducible refine Sl.k_index ?_; (((refine s_ex hst (qt_index evX asX rfl inX inX omX omX) ?_); rintro v hp; (try simp only [Int.toNat_natCast, Int.toNat_natCast_add_one, Int.reduceToNat] at hp)))) | (with_reducible refine Sl.k_call ?_; (refine s_qt hst (by exact qt_len evX asX inX) ?_))) <;> (try refine nX ?_)) | (with_reducible refine Sl.gate rfl ?_; (go_step)))
                  go_roundw
                  case rel => exact ⟨k + 1, by omega, by go_num, fun j hj h => (by rcases Nat.lt_succ_iff_lt_or_eq.1 h with h | rfl; exact Hpre.out j hj h; exact hz), hst⟩
                  case measure => simp [intOf]; omega
                | false =>
                  repeat' (first | (((with_reducible (refine Sl.k_field ?_; refine s_ex hst (qt_fieldp evX hpe inX inX rfl) ?_; rintro vf hpf))) <;> (try refine nX ?_)) | (((with_reducible refine Sl.k_call ?_; ((refine s_call (cS _ hst _ hcl) inX rfl ?_; clear hst; rintro v w ⟨rfl, hst⟩)))) <;> (try refine nX ?_) <;> (try replace hst := nH hst)) | ((fail_if_success (go_big_may)); (go_step)) | ((first | (with_reducible refine Sl.k_load ?_; (first | (refine s_ex hst (qt_ldp_list evX asX inX) ?_; rintro v ⟨hvl, hv1⟩) | (refine s_ex hst (qt_ldp evX asX inX) ?_; rintro v ⟨cl, rfl, hcl⟩))) | (with_reducible refine Sl.k_field ?_; (((refine s_ex hst (qt_fieldp evX asX inX inX rfl) ?_); rintro v hp; (try simp only [Int.toNat_natCast, Int.toNat_natCast_add_one, Int.reduceToNat] at hp)))) | (with_reducible refine Sl.k_index ?_; (((refine s_ex hst (qt_index evX asX rfl inX inX omX omX) ?_); rintro v hp; (try simp only [Int.toNat_natCast, Int.toNat_natCast_add_one, Int.reduceToNat] at hp)))) | (with_reducible refine Sl.k_call ?_; (refine s_qt hst (by exact qt_len evX asX inX) ?_))) <;> (try refine nX ?_)) | (with_reducible refine Sl.gate rfl ?_; (go_step)))
                  go_ret
                  exact ⟨_, rfl, by rw [few_no fun h => by have := List.all_eq_true.1 h.e _ (List.getElem_mem hlt); rw [hz] at this; cases this]; rfl, St.weaken hS1 hst⟩
              · have he : fewS u.2.1 = true := List.all_eq_true.2 fun s hs => by
                  obtain ⟨j, hj, rfl⟩ := List.mem_iff_getElem.1 hs
                  exact Hpre.out j hj (by omega)
                have hfin := few_yes ⟨h1, h2, h3, Hd.out, he⟩
                clear he
                repeat' (first | (((with_reducible (refine Sl.k_field ?_; refine s_ex hst (qt_fieldp evX hpe inX inX rfl) ?_; rintro vf hpf))) <;> (try refine nX ?_)) | ((fail_if_success (go_big_may)); (go_step)) | ((first | (with_reducible refine Sl.k_load ?_; ((refine s_ex hst (qt_ldp_list evX asX inX) ?_; rintro v ⟨hvl, hv1⟩))) | (with_reducible refine Sl.k_call ?_; (refine s_qt hst (by exact qt_len evX asX inX) ?_))) <;> (try refine nX ?_)) | (with_reducible refine Sl.gate rfl ?_; (go_step)))
                go_ret
                exact ⟨_, rfl, by rw [hfin]; rfl, St.weaken hS1 hst⟩
      · go_enter Tryd.func10, Tryd.ntmps10
        repeat' ((fail_if_success (with_reducible show Code.wp _ (Code.region 1 _ _) _ _ _)); first | ((fail_if_success (go_big_may)); (go_step)) | (((((refine s_box hst evX rfl ?_; clear hst; intro bx w hst)))) <;> (try refine nX ?_) <;> (try replace hst := nH hst)))
        obtain ⟨S1, hS1, hst, hpe⟩ := pt_box (α := BU) hst hR (Rep.len hR)
        repeat' (first | ((first | (with_reducible (refine Sl.k_field ?_; refine s_ex hst (qt_fieldp evX hpe inX inX rfl) ?_; rintro vf hpf)) | (with_reducible refine Sl.k_guard ?_; (first | (refine Sl.guard_yes rfl ?_) | (refine Sl.guard_cases rfl ?_ ?_ <;> intro hg <;> first | (exfalso; simp only [decide_eq_true_eq, decide_eq_false_iff_not, Bool.not_false, Bool.not_true, beq_iff_eq, beq_eq_false_iff_ne, ne_eq] at hg; omega) | (simp only [hg, Bool.not_true, Bool.not_false])) <;> (try simp only [decide_eq_true_eq, decide_eq_false_iff_not, Bool.not_false, Bool.not_true, beq_iff_eq, beq_eq_false_iff_ne, bne_iff_ne, bne_eq_false_iff_eq, ne_eq] at hg)))) <;> (try refine nX ?_)) | ((fail_if_success (go_big_may)); (go_step)) | ((first | (with_reducible refine Sl.k_load ?_; ((refine s_ex hst (qt_ldp_list evX asX inX) ?_; rintro v ⟨hvl, hv1⟩))) | (with_reducible refine Sl.k_field ?_; (((refine s_ex hst (qt_fieldp evX asX inX inX rfl) ?_); rintro v hp; (try simp only [Int.toNat_natCast, Int.toNat_natCast_add_one, Int.reduceToNat] at hp)))) | (with_reducible refine Sl.k_call ?_; (refine s_qt hst (by exact qt_len evX asX inX) ?_))) <;> (try refine nX ?_)) | (with_reducible refine Sl.gate rfl ?_; (go_step)))
        go_ret
        exact ⟨_, rfl, by rw [few_no fun h => h3 h.c]; rfl, St.weaken hS1 hst⟩
    · go_enter Tryd.func10, Tryd.ntmps10
      repeat' ((fail_if_success (with_reducible show Code.wp _ (Code.region 1 _ _) _ _ _)); first | ((fail_if_success (go_big_may)); (go_step)) | (((((refine s_box hst evX rfl ?_; clear hst; intro bx w hst)))) <;> (try refine nX ?_) <;> (try replace hst := nH hst)))
      obtain ⟨S1, hS1, hst, hpe⟩ := pt_box (α := BU) hst hR (Rep.len hR)
      repeat' (first | go_skip | ((first | (with_reducible (refine Sl.k_field ?_; refine s_ex hst (qt_fieldp evX hpe inX inX rfl) ?_; rintro vf hpf)) | (with_reducible refine Sl.k_guard ?_; (first | (refine Sl.guard_yes rfl ?_) | (refine Sl.guard_cases rfl ?_ ?_ <;> intro hg <;> first | (exfalso; simp only [decide_eq_true_eq, decide_eq_false_iff_not, Bool.not_false, Bool.not_true, beq_iff_eq, beq_eq_false_iff_ne, ne_eq] at hg; omega) | (simp only [hg, Bool.not_true, Bool.not_false])) <;> (try simp only [decide_eq_true_eq, decide_eq_false_iff_not, Bool.not_false, Bool.not_true, beq_iff_eq, beq_eq_false_iff_ne, bne_iff_ne, bne_eq_false_iff_eq, ne_eq] at hg)))) <;> (try refine nX ?_)) | ((fail_if_success (go_big_may)); (go_step)) | ((first | (with_reducible refine Sl.k_load ?_; ((refine s_ex hst (qt_ldp_list evX asX inX) ?_; rintro v ⟨hvl, hv1⟩))) | (with_reducible refine Sl.k_field ?_; (((refine s_ex hst (qt_fieldp evX asX inX inX rfl) ?_); rintro v hp; (try simp only [Int.toNat_natCast, Int.toNat_natCast_add_one, Int.reduceToNat] at hp)))) | (with_reducible refine Sl.k_call ?_; (refine s_qt hst (by exact qt_len evX asX inX) ?_))) <;> (try refine nX ?_)) | (with_reducible refine Sl.gate rfl ?_; (go_step)))
      go_ret
      exact ⟨_, rfl, by rw [few_no fun h => h2 h.b]; rfl, St.weaken hS1 hst⟩
  · go_enter Tryd.func10, Tryd.ntmps10
    repeat' ((fail_if_success (with_reducible show Code.wp _ (Code.region 1 _ _) _ _ _)); first | ((fail_if_success (go_big_may)); (go_step)) | (((((refine s_box hst evX rfl ?_; clear hst; intro bx w hst)))) <;> (try refine nX ?_) <;> (try replace hst := nH hst)))
    obtain ⟨S1, hS1, hst, hpe⟩ := pt_box (α := BU) hst hR (Rep.len hR)
    repeat' (first | go_skip | ((first | (with_reducible (refine Sl.k_field ?_; refine s_ex hst (qt_fieldp evX hpe inX inX rfl) ?_; rintro vf hpf)) | (with_reducible refine Sl.k_guard ?_; ((refine Sl.guard_cases rfl ?_ ?_ <;> intro hg <;> first | (exfalso; simp only [decide_eq_true_eq, decide_eq_false_iff_not, Bool.not_false, Bool.not_true, beq_iff_eq, beq_eq_false_iff_ne, ne_eq] at hg; omega) | (simp only [hg, Bool.not_true, Bool.not_false])) <;> (try simp only [decide_eq_true_eq, decide_eq_false_iff_not, Bool.not_false, Bool.not_true, beq_iff_eq, beq_eq_false_iff_ne, bne_iff_ne, bne_eq_false_iff_eq, ne_eq] at hg)))) <;> (try refine nX ?_)) | ((fail_if_success (go_big_may)); (go_step)) | ((first | (with_reducible refine Sl.k_load ?_; ((refine s_ex hst (qt_ldp_list evX asX inX) ?_; rintro v ⟨hvl, hv1⟩))) | (with_reducible refine Sl.k_field ?_; (((refine s_ex hst (qt_fieldp evX asX inX inX rfl) ?_); rintro v hp; (try simp only [Int.toNat_natCast, Int.toNat_natCast_add_one, Int.reduceToNat] at hp)))) | (with_reducible refine Sl.k_call ?_; (refine s_qt hst (by exact qt_len evX asX inX) ?_))) <;> (try refine nX ?_)) | (with_reducible refine Sl.gate rfl ?_; (go_step)))
    go_ret
    exact ⟨_, rfl, by rw [few_no fun h => h1 h.a]; rfl, St.weaken hS1 hst⟩
end Go.Proofs.YtlimhgamebnfeaaDoor

/- Package manifest: the references' comparison of lists of digests, walked. -/
namespace Go.Proofs.YtlimhgamebnfeaaDoor
set_option linter.unusedSimpArgs false
set_option linter.unusedVariables false
open Go.RowKit Go.Sl

set_option maxRecDepth 8000 in
set_option maxHeartbeats 1000000 in
theorem digs5_c {S M} (w : World) (hst : St S M w) (va vb : Value) (a b : List Dg) (ha : RSl S va a) (hb : RSl S vb b) (hm : a.length ≤ 9223372036854775807) :
    Rets Tryd.prog 54 [va, vb] w fun v w' => v = .bool (decide (a = b)) ∧ St S M w' := by
  unfold Rets
  by_cases hl : a.length = b.length
  · have hd : (((a.length : Int)) != (b.length : Int)) = false := by simp [hl]
    have Hl := Lib.hid hl; clear hl
    go_enter Tryd.func54, Tryd.ntmps54
    repeat' (first | ((fail_if_success (go_big_may)); (go_step)) | (((with_reducible refine Sl.k_call ?_; (refine s_qt hst (by exact qt_len evX asX inX) ?_))) <;> (try refine nX ?_)) | (with_reducible refine Sl.gate rfl ?_; (go_step)))
    go_loopw [5] (fun v wr => ∃ k : Nat, k ≤ a.length ∧ v = .int .i64 k ∧ a.take k = b.take k ∧ St S M wr) (fun v _ => a.length - (intOf v).toNat)
    case atStart => exact ⟨0, Nat.zero_le _, rfl, rfl, hst⟩
    case round =>
      clear hst
      obtain ⟨k, hk, rfl, ht, hst⟩ := hrel
      have Ht := Lib.hid ht; clear ht
      by_cases hlt : k < a.length
      · have hlb : k < b.length := Hl.out ▸ hlt
        repeat' (first | ((fail_if_success (go_big_may)); (go_step)) | (((with_reducible refine Sl.k_call ?_; (refine s_qt hst (by exact qt_len evX asX inX) ?_))) <;> (try refine nX ?_)) | (with_reducible refine Sl.gate rfl ?_; (go_step)))
        refine region_quiet hst (by kernel_rfl) (by kernel_rfl) ?_
        repeat (((first | (with_reducible refine Sl.kq_load ?_; ((refine q_ex (qt_ldp evX asX inX) ?_; rintro v ⟨cl, rfl, hcl⟩))) | (with_reducible refine Sl.kq_index ?_; (((refine q_ex (qt_index evX asX rfl inX inX omX omX) ?_); rintro v hp; (try simp only [Int.toNat_natCast, Int.toNat_natCast_add_one, Int.reduceToNat] at hp)))) | (refine Sl.kq_plain rfl ?_; (first | (refine q_qt (qt_neqK rfl rfl (by assumption) (by assumption) inX inX inX) ?_) | refine q_qt (by exact qt_move evX) ?_))) <;> (try refine nX ?_)))
        refine q_nil ?_; clear hst; intro w hst
        by_cases he : a[k] = b[k]
        · have he' : (!decide (a[k] = b[k])) = false := by simp [he]
          have He := Lib.hid he; clear he
          simp only [he']
          repeat' (first | ((fail_if_success (go_big_may)); (go_step)) | (with_reducible refine Sl.gate rfl ?_; (go_step)))
          go_roundw
          case rel => exact ⟨k + 1, by omega, by go_num, (take_succ_eq Ht.out hlt hlb).2 He.out, hst⟩
          case measure => simp [intOf]; omega
        · have he' : (!decide (a[k] = b[k])) = true := by simp [he]
          simp only [he']
          repeat' (((fail_if_success (go_big_may)); (go_step)))
          go_ret
          exact ⟨_, rfl, bool_no (by rintro rfl; exact he rfl), hst⟩
      · repeat' (first | ((fail_if_success (go_big_may)); (go_step)) | (((with_reducible refine Sl.k_call ?_; (refine s_qt hst (by exact qt_len evX asX inX) ?_))) <;> (try refine nX ?_)) | (with_reducible refine Sl.gate rfl ?_; (go_step)))
        go_ret
        exact ⟨_, rfl, bool_yes (by have h1 := Ht.out; have h2 := Hl.out; rwa [List.take_of_length_le (by omega), List.take_of_length_le (by omega)] at h1), hst⟩
  · have hd : (((a.length : Int)) != (b.length : Int)) = true := by simp; omega
    go_enter Tryd.func54, Tryd.ntmps54
    repeat' (first | ((fail_if_success (go_big_may)); (go_step)) | (((with_reducible refine Sl.k_call ?_; (refine s_qt hst (by exact qt_len evX asX inX) ?_))) <;> (try refine nX ?_)) | (with_reducible refine Sl.gate rfl ?_; (go_step)))
    go_ret
    exact ⟨_, rfl, bool_no (by rintro rfl; exact hl rfl), hst⟩

end Go.Proofs.YtlimhgamebnfeaaDoor

/- Package manifest: the references' comparisons, walked. -/
--@hgp
--@flat
--@dg
--@ex0
namespace Go.Proofs.YtlimhgamebnfeaaDoor
set_option linter.unusedSimpArgs false
set_option linter.unusedVariables false
open Go.RowKit Go.Sl

instance decSG : DecidableEq SG := instDecidableEqProd (α := Int) (β := List Dg × List Dg × Unit)
instance decSD : DecidableEq SD := instDecidableEqProd (α := Int) (β := SG × Unit)
instance decMF : DecidableEq MF := instDecidableEqProd (α := Int) (β := Int × Int × List Dg × Unit)
instance decRO : DecidableEq RO := instDecidableEqProd (α := MF) (β := List SD × Unit)
instance decBU : DecidableEq BU := instDecidableEqProd (α := MF) (β := List SD × List Str × Unit)

set_option maxRecDepth 8000 in
set_option maxHeartbeats 1000000 in
theorem same5_c {S M} (w : World) (hst : St S M w) (ca cb : List Value) (a b : SG) (ha : Rep.R S ca a) (hb : Rep.R S cb b) (hm1 : a.2.1.length ≤ 1048576) (hm2 : a.2.2.1.length ≤ 1048576) :
    Rets Tryd.prog 79 [.agg ca.toArray, .agg cb.toArray] w fun v w' => v = .bool (decide (a = b)) ∧ St S M w' := by
  unfold Rets
  obtain ⟨a1, a2, a3, ⟨⟩⟩ := a
  obtain ⟨b1, b2, b3, ⟨⟩⟩ := b
  simp only at hm1 hm2
  have e : decide (((a1, a2, a3, ()) : SG) = (b1, b2, b3, ())) = (decide (a1 = b1) && (decide (a2 = b2) && decide (a3 = b3))) := by rw [Bool.eq_iff_iff]; simp
  have cA := fun {S : Snap} {M : List Chunk} (w : World) (hst : St S M w) (va vb : Value) (ha : RSl S va a2) (hb : RSl S vb b2) => digs5_c w hst va vb a2 b2 ha hb (by omega)
  have cB := fun {S : Snap} {M : List Chunk} (w : World) (hst : St S M w) (va vb : Value) (ha : RSl S va a3) (hb : RSl S vb b3) => digs5_c w hst va vb a3 b3 ha hb (by omega)
  generalize decide (a2 = b2) = y at *
  generalize decide (a3 = b3) = z at *
  by_cases h1 : a1 = b1 <;> cases y
  all_goals
    have E1 : (a1 == b1) = decide (a1 = b1) := by rw [Bool.eq_iff_iff]; simp
    (first | rw [decide_eq_true h1] at E1 e | rw [decide_eq_false h1] at E1 e)
    go_enter Tryd.func79, Tryd.ntmps79
    repeat' ((fail_if_success (with_reducible show Code.wp _ (Code.region 1 _ _) _ _ _)); first | ((fail_if_success (go_big_may)); (go_step)) | (((((refine s_box hst evX rfl ?_; clear hst; intro bx w hst)))) <;> (try refine nX ?_) <;> (try replace hst := nH hst)))
    obtain ⟨S1, hS1, hstA, hpb⟩ := pt_box (α := SG) hst hb (Rep.len hb)
    clear hst
    obtain ⟨S2, hS2, hst, hpa⟩ := pt_box (α := SG) hstA (Rep.mono hS1 ha) (Rep.len ha)
    clear hstA
    replace hpb := hpb.mono hS2
    repeat' (first | go_skip | ((first | (with_reducible (refine Sl.k_field ?_; (first | refine s_ex hst (qt_fieldp evX hpa inX inX rfl) ?_ | refine s_ex hst (qt_fieldp evX hpb inX inX rfl) ?_); rintro vf hpf)) | (with_reducible refine Sl.k_bin ?_; (refine s_qt hst (qt_eql_b rfl rfl E1) ?_)) | (with_reducible refine Sl.k_guard ?_; ((refine Sl.guard_yes rfl ?_)))) <;> (try refine nX ?_)) | (((with_reducible refine Sl.k_call ?_; (first | (refine s_call (cA _ hst _ _ (by with_unfolding_all assumption) (by with_unfolding_all assumption)) inX rfl ?_; clear hst; rintro v w ⟨rfl, hst⟩) | (refine s_call (cB _ hst _ _ (by with_unfolding_all assumption) (by with_unfolding_all assumption)) inX rfl ?_; clear hst; rintro v w ⟨rfl, hst⟩)))) <;> (try refine nX ?_) <;> (try replace hst := nH hst)) | ((fail_if_success (go_big_may)); (go_step)) | (((with_reducible refine Sl.k_load ?_; (first | (refine s_ex hst (qt_ldp_int evX asX inX) ?_; rintro v ⟨rfl, hI⟩) | (refine s_ex hst (qt_ldp_list evX asX inX) ?_; rintro v ⟨hvl, hv1⟩)))) <;> (try refine nX ?_)))
    go_ret
    exact ⟨_, rfl, by rw [e]; rfl, St.weaken (hS1.trans hS2) hst⟩

set_option maxRecDepth 8000 in
set_option maxHeartbeats 1000000 in
theorem sameM_c {S M} (w : World) (hst : St S M w) (ca cb : List Value) (a b : MF) (ha : Rep.R S ca a) (hb : Rep.R S cb b) (hm1 : a.2.2.2.1.length ≤ 1048576) :
    Rets Tryd.prog 27 [.agg ca.toArray, .agg cb.toArray] w fun v w' => v = .bool (decide (a = b)) ∧ St S M w' := by
  unfold Rets
  obtain ⟨a1, a2, a3, a4, ⟨⟩⟩ := a
  obtain ⟨b1, b2, b3, b4, ⟨⟩⟩ := b
  simp only at hm1
  have e : decide (((a1, a2, a3, a4, ()) : MF) = (b1, b2, b3, b4, ())) = (decide (a1 = b1) && (decide (a2 = b2) && (decide (a3 = b3) && decide (a4 = b4)))) := by rw [Bool.eq_iff_iff]; simp
  have cA := fun {S : Snap} {M : List Chunk} (w : World) (hst : St S M w) (va vb : Value) (ha : RSl S va a4) (hb : RSl S vb b4) => digs5_c w hst va vb a4 b4 ha hb (by omega)
  generalize decide (a4 = b4) = z at *
  have E1 : (a1 == b1) = decide (a1 = b1) := by rw [Bool.eq_iff_iff]; simp
  have E2 : (a2 == b2) = decide (a2 = b2) := by rw [Bool.eq_iff_iff]; simp
  have E3 : (a3 == b3) = decide (a3 = b3) := by rw [Bool.eq_iff_iff]; simp
  generalize decide (a1 = b1) = y1 at *
  generalize decide (a2 = b2) = y2 at *
  generalize decide (a3 = b3) = y3 at *
  cases y1 <;> (try cases y2) <;> (try cases y3)
  all_goals
    go_enter Tryd.func27, Tryd.ntmps27
    repeat' ((fail_if_success (with_reducible show Code.wp _ (Code.region 1 _ _) _ _ _)); first | ((fail_if_success (go_big_may)); (go_step)) | (((((refine s_box hst evX rfl ?_; clear hst; intro bx w hst)))) <;> (try refine nX ?_) <;> (try replace hst := nH hst)))
    obtain ⟨S1, hS1, hstA, hpb⟩ := pt_box (α := MF) hst hb (Rep.len hb)
    clear hst
    obtain ⟨S2, hS2, hst, hpa⟩ := pt_box (α := MF) hstA (Rep.mono hS1 ha) (Rep.len ha)
    clear hstA
    replace hpb := hpb.mono hS2
    repeat' (first | go_skip | ((first | (with_reducible (refine Sl.k_field ?_; (first | refine s_ex hst (qt_fieldp evX hpa inX inX rfl) ?_ | refine s_ex hst (qt_fieldp evX hpb inX inX rfl) ?_); rintro vf hpf)) | (with_reducible refine Sl.k_bin ?_; (first | refine s_qt hst (qt_eql_b rfl rfl E1) ?_ | refine s_qt hst (qt_eql_b rfl rfl E2) ?_ | refine s_qt hst (qt_eql_b rfl rfl E3) ?_)) | (with_reducible refine Sl.k_guard ?_; ((refine Sl.guard_yes rfl ?_)))) <;> (try refine nX ?_)) | (((with_reducible refine Sl.k_call ?_; ((refine s_call (cA _ hst _ _ (by with_unfolding_all assumption) (by with_unfolding_all assumption)) inX rfl ?_; clear hst; rintro v w ⟨rfl, hst⟩)))) <;> (try refine nX ?_) <;> (try replace hst := nH hst)) | ((fail_if_success (go_big_may)); (go_step)) | (((with_reducible refine Sl.k_load ?_; (first | (refine s_ex hst (qt_ldp_int evX asX inX) ?_; rintro v ⟨rfl, hI⟩) | (refine s_ex hst (qt_ldp_list evX asX inX) ?_; rintro v ⟨hvl, hv1⟩)))) <;> (try refine nX ?_)))
    go_ret
    exact ⟨_, rfl, by rw [e]; rfl, St.weaken (hS1.trans hS2) hst⟩

set_option maxRecDepth 8000 in
set_option maxHeartbeats 1000000 in
theorem sameK_c {S M} (w : World) (hst : St S M w) (ca cb : List Value) (a b : MF) (ha : Rep.R S ca a) (hb : Rep.R S cb b) (hm1 : a.2.2.2.1.length ≤ 1048576) :
    Rets Tryd.prog 29 [.agg ca.toArray, .agg cb.toArray] w fun v w' => v = .bool (decide (a = b)) ∧ St S M w' := by
  unfold Rets
  obtain ⟨a1, a2, a3, a4, ⟨⟩⟩ := a
  obtain ⟨b1, b2, b3, b4, ⟨⟩⟩ := b
  simp only at hm1
  have e : decide (((a1, a2, a3, a4, ()) : MF) = (b1, b2, b3, b4, ())) = (decide (a1 = b1) && (decide (a2 = b2) && (decide (a3 = b3) && decide (a4 = b4)))) := by rw [Bool.eq_iff_iff]; simp
  have cA := fun {S : Snap} {M : List Chunk} (w : World) (hst : St S M w) (va vb : Value) (ha : RSl S va a4) (hb : RSl S vb b4) => digs5_c w hst va vb a4 b4 ha hb (by omega)
  generalize decide (a4 = b4) = z at *
  have E1 : (a1 == b1) = decide (a1 = b1) := by rw [Bool.eq_iff_iff]; simp
  have E2 : (a2 == b2) = decide (a2 = b2) := by rw [Bool.eq_iff_iff]; simp
  have E3 : (a3 == b3) = decide (a3 = b3) := by rw [Bool.eq_iff_iff]; simp
  generalize decide (a1 = b1) = y1 at *
  generalize decide (a2 = b2) = y2 at *
  generalize decide (a3 = b3) = y3 at *
  cases y1 <;> (try cases y2) <;> (try cases y3)
  all_goals
    go_enter Tryd.func29, Tryd.ntmps29
    repeat' ((fail_if_success (with_reducible show Code.wp _ (Code.region 1 _ _) _ _ _)); first | ((fail_if_success (go_big_may)); (go_step)) | (((((refine s_box hst evX rfl ?_; clear hst; intro bx w hst)))) <;> (try refine nX ?_) <;> (try replace hst := nH hst)))
    obtain ⟨S1, hS1, hstA, hpb⟩ := pt_box (α := MF) hst hb (Rep.len hb)
    clear hst
    obtain ⟨S2, hS2, hst, hpa⟩ := pt_box (α := MF) hstA (Rep.mono hS1 ha) (Rep.len ha)
    clear hstA
    replace hpb := hpb.mono hS2
    repeat' (first | go_skip | ((first | (with_reducible (refine Sl.k_field ?_; (first | refine s_ex hst (qt_fieldp evX hpa inX inX rfl) ?_ | refine s_ex hst (qt_fieldp evX hpb inX inX rfl) ?_); rintro vf hpf)) | (with_reducible refine Sl.k_bin ?_; (first | refine s_qt hst (qt_eql_b rfl rfl E1) ?_ | refine s_qt hst (qt_eql_b rfl rfl E2) ?_ | refine s_qt hst (qt_eql_b rfl rfl E3) ?_)) | (with_reducible refine Sl.k_guard ?_; ((refine Sl.guard_yes rfl ?_)))) <;> (try refine nX ?_)) | (((with_reducible refine Sl.k_call ?_; ((refine s_call (cA _ hst _ _ (by with_unfolding_all assumption) (by with_unfolding_all assumption)) inX rfl ?_; clear hst; rintro v w ⟨rfl, hst⟩)))) <;> (try refine nX ?_) <;> (try replace hst := nH hst)) | ((fail_if_success (go_big_may)); (go_step)) | (((with_reducible refine Sl.k_load ?_; (first | (refine s_ex hst (qt_ldp_int evX asX inX) ?_; rintro v ⟨rfl, hI⟩) | (refine s_ex hst (qt_ldp_list evX asX inX) ?_; rintro v ⟨hvl, hv1⟩)))) <;> (try refine nX ?_)))
    go_ret
    exact ⟨_, rfl, by rw [e]; rfl, St.weaken (hS1.trans hS2) hst⟩

end Go.Proofs.YtlimhgamebnfeaaDoor

/- Package manifest: the references' comparisons of signature lists, bundles, rotations, walked. -/
--@hgp
--@flat
--@dg
--@ex0
namespace Go.Proofs.YtlimhgamebnfeaaDoor
set_option linter.unusedSimpArgs false
set_option linter.unusedVariables false
open Go.RowKit Go.Sl

abbrev SdLen (x : SD) : Prop := x.2.1.2.1.length ≤ 1048576 ∧ x.2.1.2.2.1.length ≤ 1048576
set_option maxRecDepth 8000 in
set_option maxHeartbeats 2000000 in
theorem signeds_c {S M} (w : World) (hst : St S M w) (va vb : Value) (a b : List SD) (ra : RSl S va a) (rb : RSl S vb b) (hok : ∀ x ∈ a, SdLen x) (hm : a.length ≤ 1048576) :
    Rets Tryd.prog 55 [va, vb] w fun v w' => v = .bool (decide (a = b)) ∧ St S M w' := by
  unfold Rets
  have Hok := Lib.hid hok
  clear hok
  by_cases hl : a.length = b.length
  · have hd : (((a.length : Int)) != (b.length : Int)) = false := by simp [hl]
    have Hl := Lib.hid hl; clear hl
    go_enter Tryd.func55, Tryd.ntmps55
    repeat' (first | ((fail_if_success (go_big_may)); (go_step)) | (((with_reducible refine Sl.k_call ?_; (refine s_qt hst (by exact qt_len evX asX inX) ?_))) <;> (try refine nX ?_)) | (with_reducible refine Sl.gate rfl ?_; (go_step)))
    go_loopw [5, 6] (fun v _ wr => ∃ k : Nat, k ≤ a.length ∧ v = .int .i64 k ∧ a.take k = b.take k ∧ St S M wr) (fun v _ _ => a.length - (intOf v).toNat)
    case atStart => exact ⟨0, Nat.zero_le _, rfl, rfl, hst⟩
    case round =>
      clear hst
      obtain ⟨k, hk, rfl, ht, hst⟩ := hrel
      have Ht := Lib.hid ht; clear ht
      by_cases hlt : k < a.length
      · have hlb : k < b.length := Hl.out ▸ hlt
        have cS := fun {S' : Snap} {M : List Chunk} (w : World) (hS : S.Le S') (hst : St S' M w) (ca cb : List Value) (h1 : Rep.R S ca a[k].2.1) (h2 : Rep.R S cb b[k].2.1) => same5_c w hst ca cb _ _ (Rep.mono hS h1) (Rep.mono hS h2) (Hok.out _ (List.getElem_mem hlt)).1 (Hok.out _ (List.getElem_mem hlt)).2
        obtain ⟨y, hy⟩ : ∃ y, decide (a[k].2.1 = b[k].2.1) = y := ⟨_, rfl⟩
        obtain ⟨z, hz⟩ : ∃ z, (a[k].1 != b[k].1) = z := ⟨_, rfl⟩
        rw [hy] at cS
        have Hy := Lib.hid hy
        have Hz := Lib.hid hz
        clear hy
        cases y <;> cases z
        all_goals
          repeat' ((fail_if_success (with_reducible show Code.wp _ (Code.region 6 _ _) _ _ _)); first | ((fail_if_success (go_big_may)); (go_step)) | (((with_reducible refine Sl.k_call ?_; (refine s_qt hst (by exact qt_len evX asX inX) ?_))) <;> (try refine nX ?_)) | (with_reducible refine Sl.gate rfl ?_; (go_step)))
          refine v_begin hst (by kernel_rfl) ?_; clear hst; intro ops; (try refine nX ?_)
          (refine t_qt 0 rfl (by kernel_rfl) rfl rfl (by exact qt_move evX) ?_) <;> (try refine nX ?_)
          (refine t_qt 1 rfl (by kernel_rfl) rfl rfl (by exact qt_move evX) ?_) <;> (try refine nX ?_)
          ((refine t_ex0 2 rfl (by kernel_rfl) rfl rfl (qt_index evX ra rfl inX inX omX omX ) ?_; rintro  v2 hp2; simp only [Int.toNat_natCast] at hp2)) <;> (try refine nX ?_)
          ((refine t_ex0 3 rfl (by kernel_rfl) rfl rfl (qt_fieldp evX hp2 inX inX rfl ) ?_; rintro  v3 hp3)) <;> (try refine nX ?_)
          ((refine t_ex0 4 rfl (by kernel_rfl) rfl rfl (qt_ldp evX hp3 inX ) ?_; rintro  v4 ⟨ca, rfl, hca⟩)) <;> (try refine nX ?_)
          (refine t_qt 5 rfl (by kernel_rfl) rfl rfl (by exact qt_move evX) ?_) <;> (try refine nX ?_)
          (refine t_qt 6 rfl (by kernel_rfl) rfl rfl (by exact qt_move evX) ?_) <;> (try refine nX ?_)
          ((refine t_ex0 7 rfl (by kernel_rfl) rfl rfl (qt_index evX rb rfl inX inX omX omX ) ?_; rintro  v7 hp7; simp only [Int.toNat_natCast] at hp7)) <;> (try refine nX ?_)
          ((refine t_ex0 8 rfl (by kernel_rfl) rfl rfl (qt_fieldp evX hp7 inX inX rfl ) ?_; rintro  v8 hp8)) <;> (try refine nX ?_)
          ((refine t_ex0 9 rfl (by kernel_rfl) rfl rfl (qt_ldp evX hp8 inX ) ?_; rintro  v9 ⟨cb, rfl, hcb⟩)) <;> (try refine nX ?_)
          (refine t_call 10 rfl (by kernel_rfl) rfl (fun S' M' w hS hM hst => cS w hS hst ca cb hca hcb) inX rfl ?_) <;> (try refine nX ?_)
          (refine t_qt 11 rfl (by kernel_rfl) rfl rfl (by exact qt_assign evX) ?_) <;> (try refine nX ?_)
          refine v_done (by kernel_rfl) ?_; clear ops; intro w hst
          repeat' ((fail_if_success (with_reducible show Code.wp _ (Code.region 7 _ _) _ _ _)); ((fail_if_success (go_big_may)); (go_step)))
          refine v_begin hst (by kernel_rfl) ?_; clear hst; intro ops; (try refine nX ?_)
          (refine t_qt 0 rfl (by kernel_rfl) rfl rfl (by exact qt_move evX) ?_) <;> (try refine nX ?_)
          (refine t_qt 1 rfl (by kernel_rfl) rfl rfl (by exact qt_not rfl) ?_) <;> (try refine nX ?_)
          (refine t_qt 2 rfl (by kernel_rfl) rfl rfl (by exact qt_move evX) ?_) <;> (try refine nX ?_)
          (first | refine t_qt 3 rfl (by kernel_rfl) rfl rfl (by exact qt_move evX) ?_ | refine t_no 3 rfl (by kernel_rfl) rfl rfl ?_) <;> (try refine nX ?_)
          (first | refine t_qt 4 rfl (by kernel_rfl) rfl rfl (by exact qt_move evX) ?_ | refine t_no 4 rfl (by kernel_rfl) rfl rfl ?_) <;> (try refine nX ?_)
          ((first | (refine t_ex0 5 rfl (by kernel_rfl) rfl rfl (qt_index evX ra rfl inX inX omX omX ) ?_; rintro  v5 hp5; simp only [Int.toNat_natCast] at hp5) | refine t_no 5 rfl (by kernel_rfl) rfl rfl ?_)) <;> (try refine nX ?_)
          ((first | (refine t_ex0 6 rfl (by kernel_rfl) rfl rfl (qt_fieldp evX hp5 inX inX rfl ) ?_; rintro  v6 hp6) | refine t_no 6 rfl (by kernel_rfl) rfl rfl ?_)) <;> (try refine nX ?_)
          ((first | (refine t_ex0 7 rfl (by kernel_rfl) rfl rfl (qt_ldp_int evX hp6 inX ) ?_; rintro  v7 ⟨rfl, hI7⟩) | refine t_no 7 rfl (by kernel_rfl) rfl rfl ?_)) <;> (try refine nX ?_)
          (first | refine t_qt 8 rfl (by kernel_rfl) rfl rfl (by exact qt_move evX) ?_ | refine t_no 8 rfl (by kernel_rfl) rfl rfl ?_) <;> (try refine nX ?_)
          (first | refine t_qt 9 rfl (by kernel_rfl) rfl rfl (by exact qt_move evX) ?_ | refine t_no 9 rfl (by kernel_rfl) rfl rfl ?_) <;> (try refine nX ?_)
          ((first | (refine t_ex0 10 rfl (by kernel_rfl) rfl rfl (qt_index evX rb rfl inX inX omX omX ) ?_; rintro  v10 hp10; simp only [Int.toNat_natCast] at hp10) | refine t_no 10 rfl (by kernel_rfl) rfl rfl ?_)) <;> (try refine nX ?_)
          ((first | (refine t_ex0 11 rfl (by kernel_rfl) rfl rfl (qt_fieldp evX hp10 inX inX rfl ) ?_; rintro  v11 hp11) | refine t_no 11 rfl (by kernel_rfl) rfl rfl ?_)) <;> (try refine nX ?_)
          ((first | (refine t_ex0 12 rfl (by kernel_rfl) rfl rfl (qt_ldp_int evX hp11 inX ) ?_; rintro  v12 ⟨rfl, hI12⟩) | refine t_no 12 rfl (by kernel_rfl) rfl rfl ?_)) <;> (try refine nX ?_)
          ((first | refine t_qt 13 rfl (by kernel_rfl) rfl rfl (qt_neq_b rfl rfl hz) ?_ | refine t_no 13 rfl (by kernel_rfl) rfl rfl ?_)) <;> (try refine nX ?_)
          (refine t_qt 14 rfl (by kernel_rfl) rfl rfl (by first | exact qt_pick_t rfl evX | exact qt_pick_f rfl evX) ?_) <;> (try refine nX ?_)
          refine v_done (by kernel_rfl) ?_; clear ops; intro w hst
          repeat' (first | ((fail_if_success (go_big_may)); (go_step)) | (with_reducible refine Sl.gate rfl ?_; (go_step)))
          first
          | (go_ret
             exact ⟨_, rfl, bool_no (by rintro rfl; first | (have := of_decide_eq_false Hy.out; exact this rfl) | (have := Hz.out; simp at this)), hst⟩)
          | (go_roundw
             case rel => exact ⟨k + 1, by omega, by go_num, (take_succ_eq Ht.out hlt hlb).2 (Prod.ext (by have := Hz.out; simpa using this) (Prod.ext (of_decide_eq_true Hy.out) rfl)), hst⟩
             case measure => simp [intOf]; omega)
      · repeat' (first | ((fail_if_success (go_big_may)); (go_step)) | (((with_reducible refine Sl.k_call ?_; (refine s_qt hst (by exact qt_len evX asX inX) ?_))) <;> (try refine nX ?_)) | (with_reducible refine Sl.gate rfl ?_; (go_step)))
        go_ret
        exact ⟨_, rfl, bool_yes (by have h1 := Ht.out; have h2 := Hl.out; rwa [List.take_of_length_le (by omega), List.take_of_length_le (by omega)] at h1), hst⟩
  · have hd : (((a.length : Int)) != (b.length : Int)) = true := by simp; omega
    go_enter Tryd.func55, Tryd.ntmps55
    repeat' (first | ((fail_if_success (go_big_may)); (go_step)) | (((with_reducible refine Sl.k_call ?_; (refine s_qt hst (by exact qt_len evX asX inX) ?_))) <;> (try refine nX ?_)) | (with_reducible refine Sl.gate rfl ?_; (go_step)))
    go_ret
    exact ⟨_, rfl, bool_no (by rintro rfl; exact hl rfl), hst⟩
end Go.Proofs.YtlimhgamebnfeaaDoor

/- Package manifest: the references' comparisons of bundles and rotations, walked. -/
--@hgp
--@flat
--@dg
--@ex0
namespace Go.Proofs.YtlimhgamebnfeaaDoor
set_option linter.unusedSimpArgs false
set_option linter.unusedVariables false
open Go.RowKit Go.Sl

theorem ro_eq (a1 b1 : MF) (a2 b2 : List SD) : decide (((a1, a2, ()) : RO) = (b1, b2, ())) = (decide (a1 = b1) && decide (a2 = b2)) := by rw [Bool.eq_iff_iff]; simp
theorem bu_eq (a1 b1 : MF) (a2 b2 : List SD) (a3 b3 : List Str) : decide (((a1, a2, a3, ()) : BU) = (b1, b2, b3, ())) = (decide (a1 = b1) && (decide (a2 = b2) && decide (a3 = b3))) := by rw [Bool.eq_iff_iff]; simp
set_option maxRecDepth 8000 in
set_option maxHeartbeats 1000000 in
theorem sameR_c {S M} (w : World) (hst : St S M w) (ca cb : List Value) (a b : RO) (ha : Rep.R S ca a) (hb : Rep.R S cb b) (hm1 : a.1.2.2.2.1.length ≤ 1048576) (hok : ∀ x ∈ a.2.1, SdLen x) (hm2 : a.2.1.length ≤ 1048576) :
    Rets Tryd.prog 30 [.agg ca.toArray, .agg cb.toArray] w fun v w' => v = .bool (decide (a = b)) ∧ St S M w' := by
  unfold Rets
  obtain ⟨a1, a2, ⟨⟩⟩ := a
  obtain ⟨b1, b2, ⟨⟩⟩ := b
  simp only at hm1 hok hm2
  have e := ro_eq a1 b1 a2 b2
  have cA := fun {S : Snap} {M : List Chunk} (w : World) (hst : St S M w) (ca cb : List Value) (ha : Rep.R S ca a1) (hb : Rep.R S cb b1) => sameK_c w hst ca cb a1 b1 ha hb hm1
  have cB := fun {S : Snap} {M : List Chunk} (w : World) (hst : St S M w) (va vb : Value) (ha : RSl S va a2) (hb : RSl S vb b2) => signeds_c w hst va vb a2 b2 ha hb hok hm2
  generalize decide (a1 = b1) = y at *
  generalize decide (a2 = b2) = z at *
  clear hok
  cases y
  all_goals
    go_enter Tryd.func30, Tryd.ntmps30
    repeat' ((fail_if_success (with_reducible show Code.wp _ (Code.region 1 _ _) _ _ _)); first | ((fail_if_success (go_big_may)); (go_step)) | (((((refine s_box hst evX rfl ?_; clear hst; intro bx w hst)))) <;> (try refine nX ?_) <;> (try replace hst := nH hst)))
    obtain ⟨S1, hS1, hstA, hpb⟩ := pt_box (α := RO) hst hb (Rep.len hb)
    clear hst
    obtain ⟨S2, hS2, hst, hpa⟩ := pt_box (α := RO) hstA (Rep.mono hS1 ha) (Rep.len ha)
    clear hstA
    replace hpb := hpb.mono hS2
    repeat' (first | go_skip | ((first | (with_reducible (refine Sl.k_field ?_; (first | refine s_ex hst (qt_fieldp evX hpa inX inX rfl) ?_ | refine s_ex hst (qt_fieldp evX hpb inX inX rfl) ?_); rintro vf hpf)) | (with_reducible refine Sl.k_guard ?_; ((refine Sl.guard_yes rfl ?_)))) <;> (try refine nX ?_)) | (((with_reducible refine Sl.k_call ?_; (first | (refine s_call (cA _ hst _ _ (by with_unfolding_all assumption) (by with_unfolding_all assumption)) inX rfl ?_; clear hst; rintro v w ⟨rfl, hst⟩) | (refine s_call (cB _ hst _ _ (by with_unfolding_all assumption) (by with_unfolding_all assumption)) inX rfl ?_; clear hst; rintro v w ⟨rfl, hst⟩)))) <;> (try refine nX ?_) <;> (try replace hst := nH hst)) | ((fail_if_success (go_big_may)); (go_step)) | (((with_reducible refine Sl.k_load ?_; (first | (refine s_ex hst (qt_ldp_list evX asX inX) ?_; rintro v ⟨hvl, hv1⟩) | (refine s_ex hst (qt_ldp evX asX inX) ?_; rintro v ⟨cl, rfl, hcl⟩)))) <;> (try refine nX ?_)))
    go_ret
    exact ⟨_, rfl, by rw [e]; rfl, St.weaken (hS1.trans hS2) hst⟩
set_option maxRecDepth 8000 in
set_option maxHeartbeats 2000000 in
theorem sameB_c {S M} (w : World) (hst : St S M w) (ca cb : List Value) (a b : BU) (ha : Rep.R S ca a) (hb : Rep.R S cb b) (hm1 : a.1.2.2.2.1.length ≤ 1048576) (hok : ∀ x ∈ a.2.1, SdLen x) (hm2 : a.2.1.length ≤ 1048576) (hm3 : a.2.2.1.length ≤ 1048576) :
    Rets Tryd.prog 28 [.agg ca.toArray, .agg cb.toArray] w fun v w' => v = .bool (decide (a = b)) ∧ St S M w' := by
  unfold Rets
  obtain ⟨a1, a2, a3, ⟨⟩⟩ := a
  obtain ⟨b1, b2, b3, ⟨⟩⟩ := b
  simp only at hm1 hok hm2 hm3
  have e := bu_eq a1 b1 a2 b2 a3 b3
  have cA := fun {S : Snap} {M : List Chunk} (w : World) (hst : St S M w) (ca cb : List Value) (ha : Rep.R S ca a1) (hb : Rep.R S cb b1) => sameM_c w hst ca cb a1 b1 ha hb hm1
  have cB := fun {S : Snap} {M : List Chunk} (w : World) (hst : St S M w) (va vb : Value) (ha : RSl S va a2) (hb : RSl S vb b2) => signeds_c w hst va vb a2 b2 ha hb hok hm2
  generalize decide (a1 = b1) = y at *
  generalize decide (a2 = b2) = z at *
  clear hok
  by_cases hl : a3.length = b3.length
  · have hd : (((a3.length : Int)) != (b3.length : Int)) = false := by simp [hl]
    have Hl := Lib.hid hl; clear hl
    cases y <;> cases z
    all_goals
      go_enter Tryd.func28, Tryd.ntmps28
      repeat' ((fail_if_success (with_reducible show Code.wp _ (Code.region 1 _ _) _ _ _)); first | ((fail_if_success (go_big_may)); (go_step)) | (((((refine s_box hst evX rfl ?_; clear hst; intro bx w hst)))) <;> (try refine nX ?_) <;> (try replace hst := nH hst)))
      obtain ⟨S1, hS1, hstA, hpb⟩ := pt_box (α := BU) hst hb (Rep.len hb)
      clear hst
      obtain ⟨S2, hS2, hst, hpa⟩ := pt_box (α := BU) hstA (Rep.mono hS1 ha) (Rep.len ha)
      clear hstA
      replace hpb := hpb.mono hS2
      repeat' (first | go_skip | ((first | (with_reducible (refine Sl.k_field ?_; (first | refine s_ex hst (qt_fieldp evX hpa inX inX rfl) ?_ | refine s_ex hst (qt_fieldp evX hpb inX inX rfl) ?_); rintro vf hpf)) | (with_reducible refine Sl.k_bin ?_; (refine s_qt hst (qt_neq_b rfl rfl hd) ?_)) | (with_reducible refine Sl.k_guard ?_; ((refine Sl.guard_yes rfl ?_)))) <;> (try refine nX ?_)) | (((with_reducible refine Sl.k_call ?_; (first | (refine s_call (cA _ hst _ _ (by with_unfolding_all assumption) (by with_unfolding_all assumption)) inX rfl ?_; clear hst; rintro v w ⟨rfl, hst⟩) | (refine s_call (cB _ hst _ _ (by with_unfolding_all assumption) (by with_unfolding_all assumption)) inX rfl ?_; clear hst; rintro v w ⟨rfl, hst⟩)))) <;> (try refine nX ?_) <;> (try replace hst := nH hst)) | ((fail_if_success (go_big_may)); (go_step)) | ((first | (with_reducible refine Sl.k_load ?_; (first | (refine s_ex hst (qt_ldp_list evX asX inX) ?_; rintro v ⟨hvl, hv1⟩) | (refine s_ex hst (qt_ldp evX asX inX) ?_; rintro v ⟨cl, rfl, hcl⟩))) | (with_reducible refine Sl.k_call ?_; (refine s_qt hst (by exact qt_len evX asX inX) ?_))) <;> (try refine nX ?_)) | (with_reducible refine Sl.gate rfl ?_; (go_step)))
      first
      | (go_ret
         exact ⟨_, rfl, by rw [e]; rfl, St.weaken (hS1.trans hS2) hst⟩)
      | skip
    go_loopw [7] (fun v wr => ∃ k : Nat, k ≤ a3.length ∧ v = .int .i64 k ∧ a3.take k = b3.take k ∧ St S2 M wr) (fun v _ => a3.length - (intOf v).toNat)
    case atStart => exact ⟨0, Nat.zero_le _, rfl, rfl, hst⟩
    case round =>
      clear hst
      obtain ⟨k, hk, rfl, ht, hst⟩ := hrel
      have Ht := Lib.hid ht; clear ht
      by_cases hlt : k < a3.length
      · have hlb : k < b3.length := Hl.out ▸ hlt
        obtain ⟨z, hz⟩ : ∃ z, decide (a3[k].b = b3[k].b) = z := ⟨_, rfl⟩
        have Hz := Lib.hid hz
        cases z
        all_goals
          repeat' ((fail_if_success (with_reducible show Code.wp _ (Code.region 8 _ _) _ _ _)); first | (((with_reducible (refine Sl.k_field ?_; (refine s_ex hst (qt_fieldp evX hpa inX inX rfl) ?_); rintro vf hpf))) <;> (try refine nX ?_)) | ((fail_if_success (go_big_may)); (go_step)) | ((first | (with_reducible refine Sl.k_load ?_; ((refine s_ex hst (qt_ldp_list evX asX inX) ?_; rintro v ⟨hvl, hv1⟩))) | (with_reducible refine Sl.k_call ?_; (refine s_qt hst (by exact qt_len evX asX inX) ?_))) <;> (try refine nX ?_)) | (with_reducible refine Sl.gate rfl ?_; (go_step)))
          refine v_begin hst (by kernel_rfl) ?_; clear hst; intro ops; (try refine nX ?_)
          ((refine t_ex0 0 rfl (by kernel_rfl) rfl rfl (qt_fieldp evX hpa inX inX rfl ) ?_; rintro  v0 hp0)) <;> (try refine nX ?_)
          ((refine t_ex0 1 rfl (by kernel_rfl) rfl rfl (qt_ldp_list evX hp0 inX ) ?_; rintro  v1 ⟨hv1, ho1⟩)) <;> (try refine nX ?_)
          (refine t_qt 2 rfl (by kernel_rfl) rfl rfl (by exact qt_move evX) ?_) <;> (try refine nX ?_)
          ((refine t_ex0 3 rfl (by kernel_rfl) rfl rfl (qt_index evX hv1 rfl inX inX omX omX ) ?_; rintro  v3 hp3; simp only [Int.toNat_natCast] at hp3)) <;> (try refine nX ?_)
          ((refine t_ex0 4 rfl (by kernel_rfl) rfl rfl (qt_ldp_str evX hp3 inX ) ?_; rintro  v4 ⟨rfl, h4⟩)) <;> (try refine nX ?_)
          ((refine t_ex0 5 rfl (by kernel_rfl) rfl rfl (qt_fieldp evX hpb inX inX rfl ) ?_; rintro  v5 hp5)) <;> (try refine nX ?_)
          ((refine t_ex0 6 rfl (by kernel_rfl) rfl rfl (qt_ldp_list evX hp5 inX ) ?_; rintro  v6 ⟨hv6, ho6⟩)) <;> (try refine nX ?_)
          (refine t_qt 7 rfl (by kernel_rfl) rfl rfl (by exact qt_move evX) ?_) <;> (try refine nX ?_)
          ((refine t_ex0 8 rfl (by kernel_rfl) rfl rfl (qt_index evX hv6 rfl inX inX omX omX ) ?_; rintro  v8 hp8; simp only [Int.toNat_natCast] at hp8)) <;> (try refine nX ?_)
          ((refine t_ex0 9 rfl (by kernel_rfl) rfl rfl (qt_ldp_str evX hp8 inX ) ?_; rintro  v9 ⟨rfl, h9⟩)) <;> (try refine nX ?_)
          (refine t_qt 10 rfl (by kernel_rfl) rfl rfl (qt_neq_str rfl rfl inX hz) ?_) <;> (try refine nX ?_)
          refine v_done (by kernel_rfl) ?_; clear ops; intro w hst
          repeat' (first | ((fail_if_success (go_big_may)); (go_step)) | (with_reducible refine Sl.gate rfl ?_; (go_step)))
          first
          | (go_ret
             exact ⟨_, rfl, by rw [e]; exact bool_no (by rintro rfl; have := of_decide_eq_false Hz.out; exact this rfl), St.weaken (hS1.trans hS2) hst⟩)
          | (go_roundw
             case rel => exact ⟨k + 1, by omega, by go_num, (take_succ_eq Ht.out hlt hlb).2 (by have := of_decide_eq_true Hz.out; cases h : a3[k]; cases h' : b3[k]; rw [h, h'] at this; simp only at this; rw [this]), hst⟩
             case measure => simp [intOf]; omega)
      · repeat' (first | (((with_reducible (refine Sl.k_field ?_; (refine s_ex hst (qt_fieldp evX hpa inX inX rfl) ?_); rintro vf hpf))) <;> (try refine nX ?_)) | ((fail_if_success (go_big_may)); (go_step)) | ((first | (with_reducible refine Sl.k_load ?_; ((refine s_ex hst (qt_ldp_list evX asX inX) ?_; rintro v ⟨hvl, hv1⟩))) | (with_reducible refine Sl.k_call ?_; (refine s_qt hst (by exact qt_len evX asX inX) ?_))) <;> (try refine nX ?_)) | (with_reducible refine Sl.gate rfl ?_; (go_step)))
        go_ret
        exact ⟨_, rfl, by rw [e]; exact bool_yes (by have h1 := Ht.out; have h2 := Hl.out; rwa [List.take_of_length_le (by omega), List.take_of_length_le (by omega)] at h1), St.weaken (hS1.trans hS2) hst⟩
  · have hd : (((a3.length : Int)) != (b3.length : Int)) = true := by simp; omega
    have e3 : decide (a3 = b3) = false := decide_eq_false (by rintro rfl; exact hl rfl)
    rw [e3] at e
    have e : decide (((a1, a2, a3, ()) : BU) = (b1, b2, b3, ())) = false := by rw [e]; cases y <;> cases z <;> rfl
    cases y <;> cases z
    all_goals
      go_enter Tryd.func28, Tryd.ntmps28
      repeat' ((fail_if_success (with_reducible show Code.wp _ (Code.region 1 _ _) _ _ _)); first | ((fail_if_success (go_big_may)); (go_step)) | (((((refine s_box hst evX rfl ?_; clear hst; intro bx w hst)))) <;> (try refine nX ?_) <;> (try replace hst := nH hst)))
      obtain ⟨S1, hS1, hstA, hpb⟩ := pt_box (α := BU) hst hb (Rep.len hb)
      clear hst
      obtain ⟨S2, hS2, hst, hpa⟩ := pt_box (α := BU) hstA (Rep.mono hS1 ha) (Rep.len ha)
      clear hstA
      replace hpb := hpb.mono hS2
      repeat' (first | go_skip | ((first | (with_reducible (refine Sl.k_field ?_; (first | refine s_ex hst (qt_fieldp evX hpa inX inX rfl) ?_ | refine s_ex hst (qt_fieldp evX hpb inX inX rfl) ?_); rintro vf hpf)) | (with_reducible refine Sl.k_bin ?_; (refine s_qt hst (qt_neq_b rfl rfl hd) ?_)) | (with_reducible refine Sl.k_guard ?_; ((refine Sl.guard_yes rfl ?_)))) <;> (try refine nX ?_)) | (((with_reducible refine Sl.k_call ?_; (first | (refine s_call (cA _ hst _ _ (by with_unfolding_all assumption) (by with_unfolding_all assumption)) inX rfl ?_; clear hst; rintro v w ⟨rfl, hst⟩) | (refine s_call (cB _ hst _ _ (by with_unfolding_all assumption) (by with_unfolding_all assumption)) inX rfl ?_; clear hst; rintro v w ⟨rfl, hst⟩)))) <;> (try refine nX ?_) <;> (try replace hst := nH hst)) | ((fail_if_success (go_big_may)); (go_step)) | ((first | (with_reducible refine Sl.k_load ?_; (first | (refine s_ex hst (qt_ldp_list evX asX inX) ?_; rintro v ⟨hvl, hv1⟩) | (refine s_ex hst (qt_ldp evX asX inX) ?_; rintro v ⟨cl, rfl, hcl⟩))) | (with_reducible refine Sl.k_call ?_; (refine s_qt hst (by exact qt_len evX asX inX) ?_))) <;> (try refine nX ?_)) | (with_reducible refine Sl.gate rfl ?_; (go_step)))
      go_ret
      exact ⟨_, rfl, by rw [e]; rfl, St.weaken (hS1.trans hS2) hst⟩
end Go.Proofs.YtlimhgamebnfeaaDoor

/- Package manifest: how bundles and rotations that come in are read. -/
namespace Go.Proofs.YtlimhgamebnfeaaDoor
set_option linter.unusedSimpArgs false
set_option linter.unusedVariables false
open Go.RowKit Go.Sl Go.ChangeShapes Go.WideShapes Go.ChangeAt

instance opMF : Opens Tryd.prog 24 MF := opens_struct Tryd.underlying24 (by kernel_rfl)
  (openFs_cons rfl (by kernel_rfl) (ob := openFs_cons rfl (by kernel_rfl) (ob := openFs_cons rfl (by kernel_rfl) (ob := openFs_cons rfl (by kernel_rfl) (ob := openFs_nil)))))
instance opKS : Opens Tryd.prog 30 MF := opens_struct Tryd.underlying30 (by kernel_rfl)
  (openFs_cons rfl (by kernel_rfl) (ob := openFs_cons rfl (by kernel_rfl) (ob := openFs_cons rfl (by kernel_rfl) (ob := openFs_cons rfl (by kernel_rfl) (ob := openFs_nil)))))
instance opSG : Opens Tryd.prog 70 SG := opens_struct Tryd.underlying70 (by kernel_rfl)
  (openFs_cons rfl (by kernel_rfl) (ob := openFs_cons rfl (by kernel_rfl) (ob := openFs_cons rfl (by kernel_rfl) (ob := openFs_nil))))
instance opSD : Opens Tryd.prog 72 SD := opens_struct Tryd.underlying72 (by kernel_rfl)
  (openFs_cons rfl (by kernel_rfl) (ob := openFs_cons rfl (by kernel_rfl) (ob := openFs_nil)))
instance opSDs : Opens Tryd.prog 25 (List SD) := opens_list (sl25) (ty72) (by decide)
instance opBU : Opens Tryd.prog 28 BU := opens_struct Tryd.underlying28 (by kernel_rfl)
  (openFs_cons rfl (by kernel_rfl) (ob := openFs_cons rfl (by kernel_rfl) (ob := openFs_cons rfl (by kernel_rfl) (ob := openFs_nil))))
instance opRO : Opens Tryd.prog 32 RO := opens_struct Tryd.underlying32 (by kernel_rfl)
  (openFs_cons rfl (by kernel_rfl) (ob := openFs_cons rfl (by kernel_rfl) (ob := openFs_nil)))
set_option maxRecDepth 20000 in
theorem open_bu {H : Type} {enc : TypeId × Value → H} {W : World} {base : Nat} {v : Value} {d : DataW H} {p : List MemPlace} (hv : Value.okWide Tryd.prog W .any base 28 v) (h : DataW.Trod enc Tryd.prog W 0 (fun _ => true) true 28 v d p) :
    ∃ (cs : List Value) (u : BU), v = .agg cs.toArray ∧ Rep.R (snapOf W) cs u := by
  obtain ⟨cs, rfl, _⟩ := okWide_struct Tryd.underlying28 hv
  obtain ⟨y, hy, _⟩ := open_arg (α := BU) h
  exact ⟨cs.toList, y, by simp, hy⟩
set_option maxRecDepth 20000 in
theorem open_ro {H : Type} {enc : TypeId × Value → H} {W : World} {base : Nat} {v : Value} {d : DataW H} {p : List MemPlace} (hv : Value.okWide Tryd.prog W .any base 32 v) (h : DataW.Trod enc Tryd.prog W 0 (fun _ => true) true 32 v d p) :
    ∃ (cs : List Value) (u : RO), v = .agg cs.toArray ∧ Rep.R (snapOf W) cs u := by
  obtain ⟨cs, rfl, _⟩ := okWide_struct Tryd.underlying32 hv
  obtain ⟨y, hy, _⟩ := open_arg (α := RO) h
  exact ⟨cs.toList, y, by simp, hy⟩
end Go.Proofs.YtlimhgamebnfeaaDoor
