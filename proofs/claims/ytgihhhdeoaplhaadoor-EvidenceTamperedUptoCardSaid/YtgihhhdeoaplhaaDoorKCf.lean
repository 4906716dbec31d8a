/- The statement EvidenceTampered. -/
import Derived.Test.YtgihhhdeoaplhaaDoorBb
import Derived.Test.YtgihhhdeoaplhaaDoorBg
import Derived.Test.YtgihhhdeoaplhaaDoorBj
import Derived.Test.YtgihhhdeoaplhaaDoorBi

/- The statement EvidenceTampered, walked. -/
--@u32
--@hgp
--@flat
--@dg
--@ex0
namespace Go.Proofs.YtgihhhdeoaplhaaDoor
set_option linter.unusedSimpArgs false
set_option linter.unusedVariables false
open Go.RowKit Go.Sl

theorem rl_setT {S : Snap} {c : List Value} {p : Pn} {t : Int} (h : RL S c [p]) (ht : I64 t) : RL S (c.take 2 ++ [.int .i64 t] ++ c.drop 3) [((p.1, p.2.1, t, p.2.2.2.1, ()) : Pn)] := by
  have hl : c.length = 4 := h.1
  match c, hl with
  | [x0, x1, x2, x3], _ =>
    have h0 : Rep.R S [x0, x1, x2, x3] p := h.2 0 p rfl
    obtain ⟨_, a0, _, a1, _, a2, _, a3, a4⟩ := h0
    exact RL.one_mk (S := S) (cs := [x0, x1, .int .i64 t, x3]) (x := ((p.1, p.2.1, t, p.2.2.2.1, ()) : Pn)) (prod_mk (cs := [x0]) a0 (prod_mk (cs := [x1]) a1 (prod_mk (show Rep.R S [.int .i64 t] t from ⟨rfl, ht⟩) (prod_mk (cs := [x3]) a3 unit_mk))))
theorem mk_one {log : List Ev} {j i : Nat} (hj : j < log.length) (hi : i < log[j].2.2.1.length) : mkF log [] [((j : Int), (i : Int))] = some [((j : Int), (i : Int), log[j].2.2.1[i], proofM (lvM log[j]) i, ())] := by
  simp only [mkF]
  rw [if_neg (by simp; omega), Int.toNat_natCast, List.getElem?_eq_getElem hj]
  simp only []
  rw [if_neg (by omega), Int.toNat_natCast, List.getD_eq_getElem?_getD, List.getElem?_eq_getElem hi]
  rfl
theorem mkO_one {S : Snap} {M : List Chunk} {m : Dg} {log : List Ev} {rv : List (Int × Int)} {v : Value} {w : World} {ps : List Pn} (h : makeO S M m log rv v w) (e : mkF log [] rv = some ps) :
    ∃ S', S.Le S' ∧ ∃ uh up cp, v = .tuple #[.agg (u8s m.l ++ [uh, up]).toArray, .int .i64 0] ∧ RSl S' uh (log.map headM) ∧ RL S' cp ps ∧ St S' (.sl up 52 4 ps.length cp :: M) w := by
  obtain ⟨S', hS, h⟩ := h
  rw [e] at h
  exact ⟨S', hS, h⟩

set_option maxRecDepth 8000 in
set_option maxHeartbeats 4000000 in
theorem etamp_c {S M} (w : World) (hst : St S M w) (hG : Glob S) (m : Dg) (hm : m.l.length = 16) (vl : Value) (log : List Ev) (hl : RSl S vl log) (hlm : log.length ≤ 1048576) (a : Nat) (ha : a ≤ 255) (b : Nat) (hb : b ≤ 255) (c : Nat) (hc : c ≤ 255) :
    Rets Tryd.prog 8 [dgV m, vl, .int .u8 (a : Int), .int .u8 (b : Int), .int .u8 (c : Int)] w fun v w' => v = .bool true ∧ St S M w' := by
  unfold Rets
  have hl1 := hl.oneCell
  obtain ⟨a0, a1, a2, a3, a4, a5, a6, a7, a8, a9, c0, c1, c2, c3, c4, c5, rfl⟩ := dg16 hm
  obtain ⟨z, hz⟩ : ∃ z, fewN log = z := ⟨_, rfl⟩
  have cF := fun {S : Snap} {M : List Chunk} (w : World) (hst : St S M w) (hl : RSl S vl log) => (fewN_c w hst vl log hl hlm).eq hz
  cases z with
  | false =>
    go_enter Tryd.func8, Tryd.ntmps8
    repeat' (first | go_skip | (((with_reducible refine Sl.k_call ?_; (first | (refine s_call (esanity_c _ hst hG) inX rfl ?_; clear hst; rintro v w ⟨rfl, hst⟩) | (refine s_call (cF _ hst hl) inX rfl ?_; clear hst; rintro v w ⟨rfl, hst⟩)))) <;> (try refine nY ?_) <;> (try replace hst := nH hst)) | ((fail_if_success (go_big_may)); (go_step)) | (with_reducible refine Sl.gate rfl ?_; (go_step)) | (((((refine s_box hst evX rfl ?_; clear hst; intro bx w hst)))) <;> (try refine nY ?_) <;> (try replace hst := nH hst)))
    go_ret
    exact ⟨_, rfl, rfl, hst.drop⟩
  | true =>
    obtain ⟨h6, hX⟩ := fewN_of hz
    have hok : ∀ e ∈ log, evOk e := fun e he => (hX e he).ok
    have hX10 : ∀ e ∈ log, e.2.2.1.length ≤ 10 := fun e he => (hX e he).2.1
    have h6' : log.length ≤ 1000 := by omega
    clear hz hX
    by_cases h0 : log.length = 0
    · have h00 : ((log.length : Int) == 0) = true := beq_iff_eq.2 (by omega)
      clear h0
      go_enter Tryd.func8, Tryd.ntmps8
      repeat' (first | go_skip | ((first | (with_reducible refine Sl.k_bin ?_; (refine s_qt hst (qt_eql_b rfl rfl h00) ?_)) | (with_reducible refine Sl.k_guard ?_; ((refine Sl.guard_yes rfl ?_)))) <;> (try refine nY ?_)) | (((with_reducible refine Sl.k_call ?_; (first | (refine s_call (esanity_c _ hst hG) inX rfl ?_; clear hst; rintro v w ⟨rfl, hst⟩) | (refine s_call (cF _ hst hl) inX rfl ?_; clear hst; rintro v w ⟨rfl, hst⟩)))) <;> (try refine nY ?_) <;> (try replace hst := nH hst)) | ((fail_if_success (go_big_may)); (go_step)) | (((with_reducible refine Sl.k_call ?_; (refine s_qt hst (by exact qt_len evX asX inX) ?_))) <;> (try refine nY ?_)) | (with_reducible refine Sl.gate rfl ?_; (go_step)) | (((((refine s_box hst evX rfl ?_; clear hst; intro bx w hst)))) <;> (try refine nY ?_) <;> (try replace hst := nH hst)))
      go_ret
      exact ⟨_, rfl, rfl, hst.drop⟩
    · have h00 : ((log.length : Int) == 0) = false := beq_eq_false_iff_ne.2 (by omega)
      obtain ⟨y, hy⟩ : ∃ z, validB log = z := ⟨_, rfl⟩
      have cV := fun {S : Snap} {M : List Chunk} (w : World) (hst : St S M w) (hl : RSl S vl log) => (valid_c w hst vl log hl hlm hok).eq hy
      cases y with
      | false =>
        clear h0
        go_enter Tryd.func8, Tryd.ntmps8
        repeat' (first | ((first | (with_reducible refine Sl.k_bin ?_; (refine s_qt hst (qt_eql_b rfl rfl h00) ?_)) | (with_reducible refine Sl.k_guard ?_; ((refine Sl.guard_yes rfl ?_)))) <;> (try refine nY ?_)) | (((with_reducible refine Sl.k_call ?_; (first | (refine s_call (esanity_c _ hst hG) inX rfl ?_; clear hst; rintro v w ⟨rfl, hst⟩) | (refine s_call (cF _ hst hl) inX rfl ?_; clear hst; rintro v w ⟨rfl, hst⟩) | (refine s_call (cV _ hst hl) inX rfl ?_; clear hst; rintro v w ⟨rfl, hst⟩)))) <;> (try refine nY ?_) <;> (try replace hst := nH hst)) | ((fail_if_success (go_big_may)); (go_step)) | (((with_reducible refine Sl.k_call ?_; (refine s_qt hst (by exact qt_len evX asX inX) ?_))) <;> (try refine nY ?_)) | (with_reducible refine Sl.gate rfl ?_; (go_step)) | (((((refine s_box hst evX rfl ?_; clear hst; intro bx w hst)))) <;> (try refine nY ?_) <;> (try replace hst := nH hst)))
        go_ret
        exact ⟨_, rfl, rfl, hst.drop⟩
      | true =>
        have hval : validP log := of_decide_eq_true hy
        have hjl : a % log.length < log.length := Nat.mod_lt _ (by omega)
        have hje : ((a : Int) % (log.length : Int)) = ((a % log.length : Nat) : Int) := by omega
        have hl0 : 1 ≤ log.length := by omega
        clear h0 hy
        generalize a % log.length = j at *
        obtain ⟨e1, e2, e3⟩ := hok _ (List.getElem_mem hjl)
        have p10 := hX10 _ (List.getElem_mem hjl)
        by_cases hq : log[j].2.2.1.length = 0
        · have q0 : ((log[j].2.2.1.length : Int) == 0) = true := beq_iff_eq.2 (by omega)
          clear hq
          go_enter Tryd.func8, Tryd.ntmps8
          repeat' ((fail_if_success (with_reducible show Code.wp _ (Code.region 5 _ _) _ _ _)); first | ((first | (with_reducible refine Sl.k_bin ?_; (refine s_qt hst (qt_eql_b rfl rfl h00) ?_)) | (with_reducible refine Sl.k_guard ?_; ((refine Sl.guard_yes rfl ?_)))) <;> (try refine nY ?_)) | (((with_reducible refine Sl.k_call ?_; (first | (refine s_call (esanity_c _ hst hG) inX rfl ?_; clear hst; rintro v w ⟨rfl, hst⟩) | (refine s_call (cF _ hst hl) inX rfl ?_; clear hst; rintro v w ⟨rfl, hst⟩) | (refine s_call (cV _ hst hl) inX rfl ?_; clear hst; rintro v w ⟨rfl, hst⟩)))) <;> (try refine nY ?_) <;> (try replace hst := nH hst)) | ((fail_if_success (go_big_may)); (go_step)) | (((with_reducible refine Sl.k_call ?_; (refine s_qt hst (by exact qt_len evX asX inX) ?_))) <;> (try refine nY ?_)) | (with_reducible refine Sl.gate rfl ?_; (go_step)) | (((((refine s_box hst evX rfl ?_; clear hst; intro bx w hst)))) <;> (try refine nY ?_) <;> (try replace hst := nH hst)))
          simp only [hje]
          clear hje
          repeat' (first | (((with_reducible refine Sl.k_bin ?_; (refine s_qt hst (qt_eql_b rfl rfl q0) ?_))) <;> (try refine nY ?_)) | ((fail_if_success (go_big_may)); (go_step)) | ((first | (with_reducible refine Sl.k_load ?_; ((refine s_ex hst (qt_ldp_list evX asX inX) ?_; rintro v ⟨hvl, hv1⟩))) | (with_reducible refine Sl.k_field ?_; (((refine s_ex hst (qt_fieldp evX asX inX inX rfl) ?_); rintro v hp; (try simp only [Int.toNat_natCast, Int.toNat_natCast_add_one, Int.reduceToNat] at hp)))) | (with_reducible refine Sl.k_index ?_; (((refine s_ex hst (qt_index evX asX rfl inX inX omX omX) ?_); rintro v hp; (try simp only [Int.toNat_natCast, Int.toNat_natCast_add_one, Int.reduceToNat] at hp)))) | (with_reducible refine Sl.k_call ?_; (refine s_qt hst (by exact qt_len evX asX inX) ?_))) <;> (try refine nY ?_)))
          go_ret
          exact ⟨_, rfl, rfl, hst.drop⟩
        · have q0 : ((log[j].2.2.1.length : Int) == 0) = false := beq_eq_false_iff_ne.2 (by omega)
          have hil : b % log[j].2.2.1.length < log[j].2.2.1.length := Nat.mod_lt _ (by omega)
          have hie : ((b : Int) % (log[j].2.2.1.length : Int)) = ((b % log[j].2.2.1.length : Nat) : Int) := by omega
          have hq1 : 1 ≤ log[j].2.2.1.length := by omega
          clear hq
          generalize b % log[j].2.2.1.length = i at *
          have hJ64 : I64 (j : Int) := by unfold I64; omega
          have hI64 : I64 (i : Int) := by unfold I64; omega
          have hmk := mk_one hjl hil
          go_enter Tryd.func8, Tryd.ntmps8
          repeat' ((fail_if_success (with_reducible show Code.wp _ (Code.region 5 _ _) _ _ _)); first | ((first | (with_reducible refine Sl.k_bin ?_; (refine s_qt hst (qt_eql_b rfl rfl h00) ?_)) | (with_reducible refine Sl.k_guard ?_; ((refine Sl.guard_yes rfl ?_)))) <;> (try refine nY ?_)) | (((with_reducible refine Sl.k_call ?_; (first | (refine s_call (esanity_c _ hst hG) inX rfl ?_; clear hst; rintro v w ⟨rfl, hst⟩) | (refine s_call (cF _ hst hl) inX rfl ?_; clear hst; rintro v w ⟨rfl, hst⟩) | (refine s_call (cV _ hst hl) inX rfl ?_; clear hst; rintro v w ⟨rfl, hst⟩)))) <;> (try refine nY ?_) <;> (try replace hst := nH hst)) | ((fail_if_success (go_big_may)); (go_step)) | (((with_reducible refine Sl.k_call ?_; (refine s_qt hst (by exact qt_len evX asX inX) ?_))) <;> (try refine nY ?_)) | (with_reducible refine Sl.gate rfl ?_; (go_step)) | (((((refine s_box hst evX rfl ?_; clear hst; intro bx w hst)))) <;> (try refine nY ?_) <;> (try replace hst := nH hst)))
          simp only [hje]
          clear hje
          repeat' ((fail_if_success (with_reducible show Code.wp _ (Code.region 9 _ _) _ _ _)); first | (((with_reducible refine Sl.k_bin ?_; (refine s_qt hst (qt_eql_b rfl rfl q0) ?_))) <;> (try refine nY ?_)) | ((fail_if_success (go_big_may)); (go_step)) | ((first | (with_reducible refine Sl.k_load ?_; ((refine s_ex hst (qt_ldp_list evX asX inX) ?_; rintro v ⟨hvl, hv1⟩))) | (with_reducible refine Sl.k_field ?_; (((refine s_ex hst (qt_fieldp evX asX inX inX rfl) ?_); rintro v hp; (try simp only [Int.toNat_natCast, Int.toNat_natCast_add_one, Int.reduceToNat] at hp)))) | (with_reducible refine Sl.k_index ?_; (((refine s_ex hst (qt_index evX asX rfl inX inX omX omX) ?_); rintro v hp; (try simp only [Int.toNat_natCast, Int.toNat_natCast_add_one, Int.reduceToNat] at hp)))) | (with_reducible refine Sl.k_call ?_; (refine s_qt hst (by exact qt_len evX asX inX) ?_))) <;> (try refine nY ?_)) | (with_reducible refine Sl.gate rfl ?_; (go_step)))
          simp only [hie]
          clear hie
          repeat' (first | (((with_reducible (refine Sl.k_build ?_; with_unfolding_all refine s_qt hst (qt_buildA (cs := [.int .i64 (j : Int), .int .i64 (i : Int)]) inX inX inX rfl) ?_))) <;> (try refine nY ?_)) | ((fail_if_success (go_big_may)); (go_step)) | (((with_reducible refine Sl.k_load ?_; (refine s_qt hst (by exact qt_loadA evX BoxIn.h inX rfX) ?_))) <;> (try refine nY ?_)))
          refine s_lit (vs := [.agg #[.int .i64 (j : Int), .int .i64 (i : Int)]]) (cs := [.int .i64 (j : Int), .int .i64 (i : Int)]) hst inX inX rfl rfl (by simp [Value.cells]) rfl (by omega) (by omega) ?_
          clear hst; intro x9 w hst
          obtain ⟨S1, hS1, hst, hx9⟩ := St.freeze (α := Int × Int) (xs := [((j : Int), (i : Int))]) hst (rl_pairs (ps := [((j : Int), (i : Int))]) (fun p hp => by obtain rfl := List.mem_singleton.1 hp; exact ⟨hJ64, hI64⟩)) rfl
          (try refine nY ?_)
          have cO := fun {S' : Snap} {M : List Chunk} (w : World) (hS : S.Le S') (hst : St S' M w) (hx : RSl S' x9 [((j : Int), (i : Int))]) => (makeO_c w hst (hG.mono hS) _ hm vl log (hl.mono hS) h6' hok x9 _ hx (by simp)).mono fun v w' h => mkO_one h hmk
          clear hmk
          repeat' ((fail_if_success (with_reducible show Code.wp _ (Code.region 12 _ _) _ _ _)); first | (((with_reducible refine Sl.k_call ?_; ((refine s_call (cO _ hS1 hst hx9) inX rfl ?_; clear hst; rintro v w ⟨S2, hS2, uh, up, cp, rfl, huh, hcp, hst⟩)))) <;> (try refine nY ?_) <;> (try replace hst := nH hst)) | ((fail_if_success (go_big_may)); (go_step)) | (with_reducible refine Sl.gate rfl ?_; (go_step)) | (((((refine s_alloc hst inX ?_; clear hst; intro bk w hst)))) <;> (try refine nY ?_) <;> (try replace hst := nH hst)))
          simp only [List.length_cons, List.length_nil, Nat.zero_add] at hst
          obtain ⟨ua, un, uc, rfl⟩ := rsl_formE huh
          obtain ⟨pa, pn, pc, rfl⟩ := sl_formk (k := 1) hst rfl
          refine s_store hst rfl 0 rfl inX (cs := evB a0 a1 a2 a3 a4 a5 a6 a7 a8 a9 c0 c1 c2 c3 c4 c5 (.slice ua un uc) (.slice pa pn pc)) evX rfl rfl rfl (by simp) ?_
          clear hst; intro w hst
          (try refine nY ?_)
          (try replace hst := nH hst)
          obtain ⟨t, hte, ht3⟩ : ∃ t : Nat, ((c : Int) % 4) = (t : Int) ∧ t ≤ 3 := ⟨c % 4, by omega, by omega⟩
          repeat' ((fail_if_success (with_reducible show Code.wp _ (Code.region 13 _ _) _ _ _)); first | (((with_reducible refine Sl.k_guard ?_; ((refine Sl.guard_yes rfl ?_)))) <;> (try refine nY ?_)) | ((fail_if_success (go_big_may)); (go_step)) | ((first | (with_reducible refine Sl.k_load ?_; (refine s_qt hst (by exact qt_load rfl _ BoxIn.h inX rfl rfl) ?_)) | (with_reducible refine Sl.k_field ?_; (refine s_qt hst (qt_field rfl inX) ?_)) | (with_reducible refine Sl.k_call ?_; (refine s_qt hst (by exact qt_len_own evX SlIn.h inX) ?_))) <;> (try refine nY ?_)) | (with_reducible refine Sl.gate rfl ?_; (go_step)))
          simp only [hte]
          clear hte
          have hT64 : I64 (t : Int) := by unfold I64; omega
          replace hl := hl.mono (hS1.trans hS2)
          replace hG := hG.mono (hS1.trans hS2)
          have hvl2 := hvl.mono (hS1.trans hS2)
          have hle := hS1.trans hS2
          obtain ⟨y, hy⟩ : ∃ y, ((t : Int) == log[j].2.2.1[i]) = y := ⟨_, rfl⟩
          cases y with
          | true =>
            repeat' (first | (((with_reducible refine Sl.k_bin ?_; (refine s_qt hst (qt_eql_b rfl rfl hy) ?_))) <;> (try refine nY ?_)) | ((fail_if_success (go_big_may)); (go_step)) | ((first | (with_reducible refine Sl.k_load ?_; ((refine s_ex hst (qt_ldp_int evX asX inX) ?_; rintro v ⟨rfl, hI⟩))) | (with_reducible refine Sl.k_index ?_; (((refine s_ex hst (qt_index evX asX rfl inX inX omX omX) ?_); rintro v hp; (try simp only [Int.toNat_natCast, Int.toNat_natCast_add_one, Int.reduceToNat] at hp))))) <;> (try refine nY ?_)))
            go_ret
            exact ⟨_, rfl, rfl, St.weaken hle hst.drop.drop.drop⟩
          | false =>
            repeat' ((fail_if_success (with_reducible show Code.wp _ (Code.region 15 _ _) _ _ _)); first | (((with_reducible refine Sl.k_bin ?_; (refine s_qt hst (qt_eql_b rfl rfl hy) ?_))) <;> (try refine nY ?_)) | ((fail_if_success (go_big_may)); (go_step)) | ((first | (with_reducible refine Sl.k_load ?_; ((refine s_ex hst (qt_ldp_int evX asX inX) ?_; rintro v ⟨rfl, hI⟩))) | (with_reducible refine Sl.k_index ?_; (((refine s_ex hst (qt_index evX asX rfl inX inX omX omX) ?_); rintro v hp; (try simp only [Int.toNat_natCast, Int.toNat_natCast_add_one, Int.reduceToNat] at hp))))) <;> (try refine nY ?_)))
            repeat' (first | ((fail_if_success (go_big_may)); (go_step)) | ((first | (with_reducible refine Sl.k_load ?_; (refine s_qt hst (by exact qt_load rfl _ BoxIn.h inX rfl rfl) ?_)) | (with_reducible refine Sl.k_field ?_; (first | refine s_qt hst (qt_field rfl inX) ?_ | ((refine s_ex hst (qt_field_own evX asX inX) ?_); rintro v hp; (try simp only [Int.toNat_natCast, Int.toNat_natCast_add_one, Int.reduceToNat] at hp)))) | (with_reducible refine Sl.k_index ?_; (((refine s_ex hst (qt_index_own hst evX SlIn.h rfl inX inX omX omX) ?_); rintro v hp; (try simp only [Int.toNat_natCast, Int.toNat_natCast_add_one, Int.reduceToNat] at hp))))) <;> (try refine nY ?_)))
            have hp2 := hp
            rw [Nat.zero_mul, Nat.zero_add] at hp2
            have hcl : cp.length = 4 := hcp.1
            refine s_store_own (u := .int .i64 (t : Int)) (cs := [.int .i64 (t : Int)]) hst evX hp2 SlIn.h inX evX rfl rfl rfl (show 2 + 1 ≤ cp.length by omega) ?_
            clear hst hp hp2; intro w hst
            (try refine nY ?_)
            (try replace hst := nH hst)
            have hq := rl_setT hcp hT64
            have hst := hst.perm (List.Perm.swap _ _ _)
            obtain ⟨S3, hS3, hst, hpt⟩ := St.freeze (α := Pn) hst hq rfl
            have hRb : Rep.R S3 (evB a0 a1 a2 a3 a4 a5 a6 a7 a8 a9 c0 c1 c2 c3 c4 c5 (.slice ua un uc) (.slice pa pn pc)) (((⟨[a0, a1, a2, a3, a4, a5, a6, a7, a8, a9, c0, c1, c2, c3, c4, c5]⟩ : Dg), log.map headM, [((j : Int), (i : Int), (t : Int), proofM (lvM log[j]) i, ())], ()) : Evd) :=
              prod_mk (r_dgx hm) (prod_mk (cs := [_]) ⟨_, rfl, huh.mono hS3⟩ (prod_mk (cs := [_]) ⟨_, rfl, hpt⟩ unit_mk))
            obtain ⟨S4, hS4, hst, hpe⟩ := pt_box (α := Evd) hst hRb rfl
            generalize Value.pointer (some ⟨bk, 0, none⟩) = pE at *
            have okE : EvOk (((⟨[a0, a1, a2, a3, a4, a5, a6, a7, a8, a9, c0, c1, c2, c3, c4, c5]⟩ : Dg), log.map headM, [((j : Int), (i : Int), (t : Int), proofM (lvM log[j]) i, ())], ()) : Evd) := by
              refine ⟨fun h hh => ⟨evd_hd hRb h hh, ?_⟩, fun p hp => ?_, ?_, by simp⟩
              · obtain ⟨x, hx, rfl⟩ := List.mem_map.1 hh
                obtain ⟨_, x2, _⟩ := hok x hx
                show (x.2.2.1.length : Int) ≤ 1000
                omega
              · obtain rfl := List.mem_singleton.1 hp
                refine ⟨hJ64, hI64, hT64, ?_⟩
                have := proofM_cnt (lvM log[j]) i
                rw [show (lvM log[j]).length = log[j].2.2.1.length from leavesP_len _ _] at this
                show (proofM (lvM log[j]) i).length ≤ 1048576
                omega
              · show (log.map headM).length ≤ 1048576
                rw [List.length_map]; omega
            have htam := tamper (e := log[j]) (List.getElem?_eq_getElem hjl) hil (t := (t : Int)) (by omega) (by omega)
            rw [List.getD_eq_getElem?_getD, List.getElem?_eq_getElem hil, Option.getD_some] at htam
            replace hG := hG.mono (hS3.trans hS4)
            replace hvl2 := hvl2.mono (hS3.trans hS4)
            replace hle := hle.trans (hS3.trans hS4)
            have hI2 := rsl_i64 hvl2 _ (List.getElem_mem hil)
            have lvl : (lvM log[j]).length = log[j].2.2.1.length := leavesP_len _ _
            have hpc := proofM_cnt (lvM log[j]) i
            have cC := fun {S' : Snap} {M : List Chunk} (w : World) (hS : S4.Le S') (hst : St S' M w) (cs : List Value) (hR : Rep.R S4 cs _) => check_c w hst (hG.mono hS) cs _ (Rep.mono hS hR) okE
            have cP := fun {S' : Snap} {M : List Chunk} (w : World) (hS : S4.Le S') (hst : St S' M w) => pleaf_c w hst (hG.mono hS) (i : Int) log[j].2.2.1[i] hI64 hI2
            have cX := fun {S' : Snap} {M : List Chunk} (w : World) (hS : S4.Le S') (hst : St S' M w) (v : Value) (hv : RSl S' v (lvM log[j])) (u : Value) (hu : RSl S' u (proofM (lvM log[j]) i)) => collides_c (lvM log[j]).length w hst (hG.mono hS) v _ hv i (by omega) (Nat.le_refl _) (by omega) (leafP (i : Int) (t : Int)) (leafP_len _ _) u _ hu (by omega)
            have lL := leafP_len (i : Int) (t : Int)
            have lR := leafP_len (i : Int) log[j].2.2.1[i]
            dsimp only at cC htam
            generalize ckF (log.map headM) [] [((j : Int), (i : Int), (t : Int), proofM (lvM log[j]) i, ())] = ck at *
            haveI hLL : LenIs (leafP (i : Int) (t : Int)).l 16 := ⟨lL⟩
            repeat' ((fail_if_success (with_reducible show Code.wp _ (Code.region 17 _ _) _ _ _)); first | (((with_reducible refine Sl.k_call ?_; ((refine s_call (pleaf_c _ hst hG (i : Int) (t : Int) hI64 hT64) inX rfl ?_; clear hst; rintro v w ⟨rfl, hst⟩)))) <;> (try refine nY ?_) <;> (try replace hst := nH hst)) | ((fail_if_success (go_big_may)); (go_step)) | ((((first | (with_reducible refine Sl.k_store ?_; (refine s_stD hst rfl BoxIn.h inX evX inX lenX ?_); clear hst; intro w hst) | (refine s_alloc hst inX ?_; clear hst; intro bk w hst)))) <;> (try refine nY ?_) <;> (try replace hst := nH hst)))
            clear lvl hpc
            generalize leafP (i : Int) (t : Int) = L at *
            generalize leafP (i : Int) log[j].2.2.1[i] = R at *
            obtain ⟨y1, g1⟩ : ∃ y, ((ck : Int) == 16) = y := ⟨_, rfl⟩
            obtain ⟨y2, g2⟩ : ∃ y, decide (L = R) = y := ⟨_, rfl⟩
            obtain ⟨y3, g3⟩ : ∃ y, collM (lvM log[j]) i L (proofM (lvM log[j]) i) = y := ⟨_, rfl⟩
            rw [g3] at cX htam
            cases y1 with
            | true =>
              refine v_begin hst (by kernel_rfl) ?_; clear hst; intro ops; (try refine nY ?_)
              (refine t_qt 0 rfl (by kernel_rfl) rfl rfl (by exact qt_move evX) ?_) <;> (try refine nY ?_)
              (refine t_qt 1 rfl (by kernel_rfl) rfl rfl (by exact qt_move evX) ?_) <;> (try refine nY ?_)
              (((refine t_ex0 2 rfl (by kernel_rfl) rfl rfl (qt_ldp evX hpe inX ) ?_; rintro  v2 ⟨cl2, rfl, hcl2⟩))) <;> (try refine nY ?_)
              ((refine t_call 3 rfl (by kernel_rfl) rfl (fun S' M' w hS hM hst => cC w hS hst cl2 hcl2) inX rfl ?_)) <;> (try refine nY ?_)
              ((refine t_qt 4 rfl (by kernel_rfl) rfl rfl (qt_eql_b rfl rfl g1) ?_)) <;> (try refine nY ?_)
              (refine t_qt 5 rfl (by kernel_rfl) rfl rfl (by exact qt_move evX) ?_) <;> (try refine nY ?_)
              (refine t_no 6 rfl (by kernel_rfl) rfl rfl ?_) <;> (try refine nY ?_)
              (refine t_no 7 rfl (by kernel_rfl) rfl rfl ?_) <;> (try refine nY ?_)
              (refine t_no 8 rfl (by kernel_rfl) rfl rfl ?_) <;> (try refine nY ?_)
              (refine t_no 9 rfl (by kernel_rfl) rfl rfl ?_) <;> (try refine nY ?_)
              (refine t_no 10 rfl (by kernel_rfl) rfl rfl ?_) <;> (try refine nY ?_)
              (refine t_no 11 rfl (by kernel_rfl) rfl rfl ?_) <;> (try refine nY ?_)
              (refine t_no 12 rfl (by kernel_rfl) rfl rfl ?_) <;> (try refine nY ?_)
              (refine t_no 13 rfl (by kernel_rfl) rfl rfl ?_) <;> (try refine nY ?_)
              (refine t_qt 14 rfl (by kernel_rfl) rfl rfl (by exact qt_pick_t rfl evX) ?_) <;> (try refine nY ?_)
              (refine t_qt 15 rfl (by kernel_rfl) rfl rfl (by exact qt_move evX) ?_) <;> (try refine nY ?_)
              (refine t_no 16 rfl (by kernel_rfl) rfl rfl ?_) <;> (try refine nY ?_)
              (refine t_no 17 rfl (by kernel_rfl) rfl rfl ?_) <;> (try refine nY ?_)
              (refine t_no 18 rfl (by kernel_rfl) rfl rfl ?_) <;> (try refine nY ?_)
              (refine t_no 19 rfl (by kernel_rfl) rfl rfl ?_) <;> (try refine nY ?_)
              (refine t_no 20 rfl (by kernel_rfl) rfl rfl ?_) <;> (try refine nY ?_)
              (refine t_no 21 rfl (by kernel_rfl) rfl rfl ?_) <;> (try refine nY ?_)
              (refine t_no 22 rfl (by kernel_rfl) rfl rfl ?_) <;> (try refine nY ?_)
              (refine t_no 23 rfl (by kernel_rfl) rfl rfl ?_) <;> (try refine nY ?_)
              (refine t_no 24 rfl (by kernel_rfl) rfl rfl ?_) <;> (try refine nY ?_)
              (refine t_no 25 rfl (by kernel_rfl) rfl rfl ?_) <;> (try refine nY ?_)
              (refine t_qt 26 rfl (by kernel_rfl) rfl rfl (by exact qt_pick_t rfl evX) ?_) <;> (try refine nY ?_)
              (refine t_qt 27 rfl (by kernel_rfl) rfl rfl (by exact qt_pick_t rfl evX) ?_) <;> (try refine nY ?_)
              (refine t_qt 28 rfl (by kernel_rfl) rfl rfl (by exact qt_assign evX) ?_) <;> (try refine nY ?_)
              refine v_done (by kernel_rfl) ?_; clear ops; intro w hst
              repeat' (((fail_if_success (go_big_may)); (go_step)))
              go_ret
              exact ⟨_, rfl, rfl, St.weaken hle hst.drop.drop⟩
            | false =>
              cases y2 with
              | true =>
                refine v_begin hst (by kernel_rfl) ?_; clear hst; intro ops; (try refine nY ?_)
                (refine t_qt 0 rfl (by kernel_rfl) rfl rfl (by exact qt_move evX) ?_) <;> (try refine nY ?_)
                (refine t_qt 1 rfl (by kernel_rfl) rfl rfl (by exact qt_move evX) ?_) <;> (try refine nY ?_)
                (((refine t_ex0 2 rfl (by kernel_rfl) rfl rfl (qt_ldp evX hpe inX ) ?_; rintro  v2 ⟨cl2, rfl, hcl2⟩))) <;> (try refine nY ?_)
                ((refine t_call 3 rfl (by kernel_rfl) rfl (fun S' M' w hS hM hst => cC w hS hst cl2 hcl2) inX rfl ?_)) <;> (try refine nY ?_)
                ((refine t_qt 4 rfl (by kernel_rfl) rfl rfl (qt_eql_b rfl rfl g1) ?_)) <;> (try refine nY ?_)
                (refine t_qt 5 rfl (by kernel_rfl) rfl rfl (by exact qt_move evX) ?_) <;> (try refine nY ?_)
                ((refine t_qt 6 rfl (by kernel_rfl) rfl rfl (qt_loadD evX BoxIn.h inX inX) ?_)) <;> (try refine nY ?_)
                (refine t_qt 7 rfl (by kernel_rfl) rfl rfl (by exact qt_move evX) ?_) <;> (try refine nY ?_)
                (refine t_qt 8 rfl (by kernel_rfl) rfl rfl (by exact qt_move evX) ?_) <;> (try refine nY ?_)
                (refine t_qt 9 rfl (by kernel_rfl) rfl rfl (by exact qt_move evX) ?_) <;> (try refine nY ?_)
                (((refine t_ex0 10 rfl (by kernel_rfl) rfl rfl (qt_index evX hvl2 rfl inX inX omX omX ) ?_; rintro  v10 hp10; simp only [Int.toNat_natCast] at hp10))) <;> (try refine nY ?_)
                (((refine t_ex0 11 rfl (by kernel_rfl) rfl rfl (qt_ldp_int evX hp10 inX ) ?_; rintro  v11 ⟨rfl, hI11⟩))) <;> (try refine nY ?_)
                ((refine t_call 12 rfl (by kernel_rfl) rfl (fun S' M' w hS hM hst => cP w hS hst) inX rfl ?_)) <;> (try refine nY ?_)
                ((refine t_qt 13 rfl (by kernel_rfl) rfl rfl (qt_eqlK_b rfl rfl (r_dg lL) (r_dg lR) inX inX inferInstance g2) ?_)) <;> (try refine nY ?_)
                (refine t_qt 14 rfl (by kernel_rfl) rfl rfl (by exact qt_pick_f rfl evX) ?_) <;> (try refine nY ?_)
                (refine t_qt 15 rfl (by kernel_rfl) rfl rfl (by exact qt_move evX) ?_) <;> (try refine nY ?_)
                (refine t_no 16 rfl (by kernel_rfl) rfl rfl ?_) <;> (try refine nY ?_)
                (refine t_no 17 rfl (by kernel_rfl) rfl rfl ?_) <;> (try refine nY ?_)
                (refine t_no 18 rfl (by kernel_rfl) rfl rfl ?_) <;> (try refine nY ?_)
                (refine t_no 19 rfl (by kernel_rfl) rfl rfl ?_) <;> (try refine nY ?_)
                (refine t_no 20 rfl (by kernel_rfl) rfl rfl ?_) <;> (try refine nY ?_)
                (refine t_no 21 rfl (by kernel_rfl) rfl rfl ?_) <;> (try refine nY ?_)
                (refine t_no 22 rfl (by kernel_rfl) rfl rfl ?_) <;> (try refine nY ?_)
                (refine t_no 23 rfl (by kernel_rfl) rfl rfl ?_) <;> (try refine nY ?_)
                (refine t_no 24 rfl (by kernel_rfl) rfl rfl ?_) <;> (try refine nY ?_)
                (refine t_no 25 rfl (by kernel_rfl) rfl rfl ?_) <;> (try refine nY ?_)
                (refine t_qt 26 rfl (by kernel_rfl) rfl rfl (by exact qt_pick_t rfl evX) ?_) <;> (try refine nY ?_)
                (refine t_qt 27 rfl (by kernel_rfl) rfl rfl (by exact qt_pick_t rfl evX) ?_) <;> (try refine nY ?_)
                (refine t_qt 28 rfl (by kernel_rfl) rfl rfl (by exact qt_assign evX) ?_) <;> (try refine nY ?_)
                refine v_done (by kernel_rfl) ?_; clear ops; intro w hst
                repeat' (((fail_if_success (go_big_may)); (go_step)))
                go_ret
                exact ⟨_, rfl, rfl, St.weaken hle hst.drop.drop⟩
              | false =>
                obtain rfl : y3 = true := by
                  rcases htam with h | h | h
                  · subst h; simp at g1
                  · exact absurd h (of_decide_eq_false g2)
                  · exact h
                clear htam
                refine v_begin hst (by kernel_rfl) ?_; clear hst; intro ops; (try refine nY ?_)
                (refine t_qt 0 rfl (by kernel_rfl) rfl rfl (by exact qt_move evX) ?_) <;> (try refine nY ?_)
                (refine t_qt 1 rfl (by kernel_rfl) rfl rfl (by exact qt_move evX) ?_) <;> (try refine nY ?_)
                (((refine t_ex0 2 rfl (by kernel_rfl) rfl rfl (qt_ldp evX hpe inX ) ?_; rintro  v2 ⟨cl2, rfl, hcl2⟩))) <;> (try refine nY ?_)
                ((refine t_call 3 rfl (by kernel_rfl) rfl (fun S' M' w hS hM hst => cC w hS hst cl2 hcl2) inX rfl ?_)) <;> (try refine nY ?_)
                ((refine t_qt 4 rfl (by kernel_rfl) rfl rfl (qt_eql_b rfl rfl g1) ?_)) <;> (try refine nY ?_)
                (refine t_qt 5 rfl (by kernel_rfl) rfl rfl (by exact qt_move evX) ?_) <;> (try refine nY ?_)
                ((refine t_qt 6 rfl (by kernel_rfl) rfl rfl (qt_loadD evX BoxIn.h inX inX) ?_)) <;> (try refine nY ?_)
                (refine t_qt 7 rfl (by kernel_rfl) rfl rfl (by exact qt_move evX) ?_) <;> (try refine nY ?_)
                (refine t_qt 8 rfl (by kernel_rfl) rfl rfl (by exact qt_move evX) ?_) <;> (try refine nY ?_)
                (refine t_qt 9 rfl (by kernel_rfl) rfl rfl (by exact qt_move evX) ?_) <;> (try refine nY ?_)
                (((refine t_ex0 10 rfl (by kernel_rfl) rfl rfl (qt_index evX hvl2 rfl inX inX omX omX ) ?_; rintro  v10 hp10; simp only [Int.toNat_natCast] at hp10))) <;> (try refine nY ?_)
                (((refine t_ex0 11 rfl (by kernel_rfl) rfl rfl (qt_ldp_int evX hp10 inX ) ?_; rintro  v11 ⟨rfl, hI11⟩))) <;> (try refine nY ?_)
                ((refine t_call 12 rfl (by kernel_rfl) rfl (fun S' M' w hS hM hst => cP w hS hst) inX rfl ?_)) <;> (try refine nY ?_)
                ((refine t_qt 13 rfl (by kernel_rfl) rfl rfl (qt_eqlK_b rfl rfl (r_dg lL) (r_dg lR) inX inX inferInstance g2) ?_)) <;> (try refine nY ?_)
                (refine t_qt 14 rfl (by kernel_rfl) rfl rfl (by exact qt_pick_f rfl evX) ?_) <;> (try refine nY ?_)
                (refine t_qt 15 rfl (by kernel_rfl) rfl rfl (by exact qt_move evX) ?_) <;> (try refine nY ?_)
                (refine t_qt 16 rfl (by kernel_rfl) rfl rfl (by exact qt_move evX) ?_) <;> (try refine nY ?_)
                (refine t_qt 18 rfl (by kernel_rfl) rfl rfl (by exact qt_move evX) ?_) <;> (try refine nY ?_)
                ((refine t_qt 19 rfl (by kernel_rfl) rfl rfl (qt_loadD evX BoxIn.h inX inX) ?_)) <;> (try refine nY ?_)
                (((refine t_ex0 20 rfl (by kernel_rfl) rfl rfl (qt_fieldp evX hpe inX inX rfl ) ?_; rintro  v20 hp20))) <;> (try refine nY ?_)
                (((refine t_ex0 21 rfl (by kernel_rfl) rfl rfl (qt_ldp_list evX hp20 inX ) ?_; rintro  v21 ⟨hv21, hv211⟩))) <;> (try refine nY ?_)
                (((refine t_ex0 22 rfl (by kernel_rfl) rfl rfl (qt_index evX hv21 rfl inX inX omX (by simp) ) ?_; rintro  v22 hp22))) <;> (try refine nY ?_)
                (((refine t_ex0 23 rfl (by kernel_rfl) rfl rfl (qt_fieldp evX hp22 inX inX rfl ) ?_; rintro  v23 hp23))) <;> (try refine nY ?_)
                (((refine t_ex0 24 rfl (by kernel_rfl) rfl rfl (qt_ldp_list evX hp23 inX ) ?_; rintro  v24 ⟨hv24, hv241⟩))) <;> (try refine nY ?_)
                refine v_one 17 rfl (by kernel_rfl) ?_; intro w hst K hK; refine Sl.guard_yes rfl ?_; refine s_call (refLeaves_f w hst _ _ hvl2 e2) inX rfl ?_; clear hst; rintro v17 w ⟨T17, hT17, hv17, hv171, hst⟩; (try refine nY ?_); (try replace hst := nH hst); refine v_next hK hst hT17 (Suf.refl _) ?_; clear hst hK K; (try clear w); (try refine nY ?_)
                ((refine t_call 25 rfl (by kernel_rfl) rfl (fun S' M' w hS hM hst => cX w (hT17.trans hS) hst v17 (hv17.mono hS) v24 (hv24.mono (hT17.trans hS))) inX rfl ?_)) <;> (try refine nY ?_)
                (refine t_qt 26 rfl (by kernel_rfl) rfl rfl (by exact qt_pick_f rfl evX) ?_) <;> (try refine nY ?_)
                (refine t_qt 27 rfl (by kernel_rfl) rfl rfl (by exact qt_pick_t rfl evX) ?_) <;> (try refine nY ?_)
                (refine t_qt 28 rfl (by kernel_rfl) rfl rfl (by exact qt_assign evX) ?_) <;> (try refine nY ?_)
                refine v_done (by kernel_rfl) ?_; clear ops; intro w hst
                repeat' (((fail_if_success (go_big_may)); (go_step)))
                go_ret
                exact ⟨_, rfl, rfl, St.weaken (hle.trans hT17) hst.drop.drop⟩
end Go.Proofs.YtgihhhdeoaplhaaDoor

/- The statement EvidenceTampered. -/
namespace Go.Proofs.YtgihhhdeoaplhaaDoor
set_option linter.unusedSimpArgs false
set_option linter.unusedVariables false
open Go.RowKit Go.Sl Go.ChangeShapes Go.WideShapes Go.ChangeAt

set_option maxRecDepth 20000 in
theorem etamp_post (H : Type) (enc : TypeId × Value → H) (W : World) (base : Nat) (args : Array Value) (ds gs : List (DataW H)) (before : List MemPlace)
    (hval : ∀ (j : Nat) t v, Tryd.f8.params[j]? = some t → args[j]? = some v → Value.okWide Tryd.prog W .any base t v)
    (hW : DataW.Whole enc Tryd.prog Tryd.f8.params.toList Rows.evidenceTamperedSpec.vars false W args.toList ds gs before) (hk : Rows.uptoSmall H (ds ++ gs) = true) (hL : laidMetH Tryd.prog Rows.evidenceTamperedUptoRow.laid W) :
    Calls Tryd.prog 8 args W fun e W' => ∃ v, e = .returned v ∧ Rows.evidenceTamperedSpec.post enc Tryd.prog Tryd.f8 false true false false W args v W' := by
  have hW' := hW
  obtain ⟨p, q, hA0, hV, rfl, hfz, hnd⟩ := hW
  have hA : DataW.TrodAll enc Tryd.prog W 0 (fun _ => true) true Tryd.f8.params.toList args.toList ds p := hA0
  have hk := small_all hk
  rw [Tryd.params8] at hA hval
  obtain ⟨v0, vs0, d0, ds0, p0, q0, hargs, rfl, rfl, h0, r0⟩ := trodAll_cons hA
  obtain ⟨v1, vs1, d1, ds1, p1, q1, rfl, rfl, rfl, h1, r1⟩ := trodAll_cons r0
  obtain ⟨v2, vs2, d2, ds2, p2, q2, rfl, rfl, rfl, h2, r2⟩ := trodAll_cons r1
  obtain ⟨v3, vs3, d3, ds3, p3, q3, rfl, rfl, rfl, h3, r3⟩ := trodAll_cons r2
  obtain ⟨v4, vs4, d4, ds4, p4, q4, rfl, rfl, rfl, h4, r4⟩ := trodAll_cons r3
  obtain ⟨rfl, rfl, rfl⟩ := trodAll_nil r4
  obtain rfl : args = #[v0, v1, v2, v3, v4] := by cases args; simp_all
  obtain ⟨rfl, rfl⟩ := trodVars_none hV
  simp only [List.append_nil, Rows.uptoBulkAll] at hk
  obtain ⟨d0, rfl, hd0⟩ := open_dg (hval 0 23 v0 rfl rfl) h0
  obtain ⟨l1, hl1, hm1⟩ := open_evs (hval 1 24 v1 rfl rfl) h1 (by omega)
  obtain ⟨n2, rfl, hn2⟩ := open_u8 (hval 2 5 v2 rfl rfl) h2
  obtain ⟨n3, rfl, hn3⟩ := open_u8 (hval 3 5 v3 rfl rfl) h3
  obtain ⟨n4, rfl, hn4⟩ := open_u8 (hval 4 5 v4 rfl rfl) h4
  refine Calls.mono (etamp_c W (St.start W) (glob_of hL) d0 hd0 v1 l1 hl1 hm1 n2 hn2 n3 hn3 n4 hn4) fun e W' ⟨v, he, hv, hst⟩ => ?_
  subst hv
  exact ⟨_, he, law_post (tb := 4) rfl hW' (by kernel_rfl) (by rw [Tryd.params8]; intro t ht'; have e : t = 23 ∨ t = 24 ∨ t = 5 := (by simpa using ht'); rcases e with rfl | rfl | rfl <;> exact ⟨by kernel_rfl, of_decide_eq_true (by kernel_rfl)⟩) (by kernel_rfl) (by kernel_rfl) rfl rfl rfl hst.below⟩

abbrev etamp_args : Array Value := #[.agg #[.int .u8 0, .int .u8 0, .int .u8 0, .int .u8 0, .int .u8 0, .int .u8 0, .int .u8 0, .int .u8 0, .int .u8 0, .int .u8 0, .int .u8 0, .int .u8 0, .int .u8 0, .int .u8 0, .int .u8 0, .int .u8 0], .slice none 0 0, .int .u8 0, .int .u8 0, .int .u8 0]
theorem etamp_met (os : Os) : laidMet Tryd.prog Rows.evidenceTamperedUptoRow.laid ((laidWorld os #[]).forCall (fun _ _ => 0) ⟨#[], etamp_args, []⟩).memory :=
  laidMet_of_run' 8 (by kernel_rfl) (by kernel_rfl)
theorem etamp_reads (os : Os) {H : Type} (enc : TypeId × Value → H) : ∃ places, DataW.whole enc Tryd.prog ((laidWorld os #[]).forCall (fun _ _ => 0) ⟨#[], etamp_args, []⟩).memory Tryd.f8.params.toList Rows.evidenceTamperedSpec.vars false etamp_args.toList 8 = some ([.agg [.lit (.int .u8 0), .lit (.int .u8 0), .lit (.int .u8 0), .lit (.int .u8 0), .lit (.int .u8 0), .lit (.int .u8 0), .lit (.int .u8 0), .lit (.int .u8 0), .lit (.int .u8 0), .lit (.int .u8 0), .lit (.int .u8 0), .lit (.int .u8 0), .lit (.int .u8 0), .lit (.int .u8 0), .lit (.int .u8 0), .lit (.int .u8 0)], .nil, .lit (.int .u8 0), .lit (.int .u8 0), .lit (.int .u8 0)], [], places) :=
  ⟨[], by kernel_rfl⟩

set_option maxRecDepth 100000 in
theorem etamp_lifted (os : Os) (started : os.Started) (H : Type) (enc : TypeId × Value → H) (F : Stop.Interp) :
    ReturnsInHanded {} Tryd.checked os 8 .any ((Rows.OpenSpec.upto Rows.evidenceTamperedSpec).preRow enc Tryd.prog Tryd.f8 Rows.evidenceTamperedUptoRow.domain false Rows.evidenceTamperedUptoRow.laid) (((Rows.OpenSpec.upto Rows.evidenceTamperedSpec).at F).post enc Tryd.prog Tryd.f8 false true false false) := by
  obtain ⟨places, hx⟩ := etamp_reads os enc
  refine returnsInHanded_of_row (C := Tryd.checked) (s := Rows.OpenSpec.upto Rows.evidenceTamperedSpec) own started (by kernel_rfl) Tryd.func8
    (witness_row_at (enc := enc) (C := Tryd.checked) false (laidWorld os #[]) etamp_args rfl (by kernel_rfl) (by kernel_rfl) (by kernel_rfl)
      (OpenSpec.preRow_of_cond 8 hx (by kernel_rfl) (fun k hk => by cases hk; kernel_rfl) (by kernel_rfl) (etamp_met os))) ?_
  intro W base args ds gs before hval hW _ hc _ hL _ _
  exact etamp_post H enc W base args ds gs before hval hW (hc _ rfl) hL

theorem etamp_said : Rows.EvidenceTamperedUptoSaid :=
  OpenClaim.holds_of_cond 8 Tryd.f8 rfl rfl rfl rfl rfl rfl rfl ⟨rfl, rfl, rfl, rfl, rfl⟩ rfl rfl rfl rfl rfl (by kernel_rfl) Tryd.func8 (by kernel_rfl)
    (of_decide_eq_true (by kernel_rfl)) (by unfold Func.isWrapper; first | (rw [if_pos (by decide +kernel)]; kernel_rfl) | (rw [if_neg (by decide +kernel)]; exact ⟨rfl, rfl⟩))
    (fun os started H enc _ F => by rw [OpenClaim.pre_eq_preRow]; exact etamp_lifted os started H enc F)

theorem etamp_plain (f : FuncId) (fn : Func) (hf : Tryd.pinned.checked.prog.funcNamed "bootchain/bootchainlaw21.EvidenceTampered" = some f) (hfn : Tryd.pinned.checked.prog.funcs[f]? = some fn) :
    false = Tryd.pinned.checked.prog.looks [] ∧ ∀ (j : Nat) t, fn.params[j]? = some t → Tryd.pinned.checked.prog.wantsStandIn t = false := by
  obtain rfl : f = 8 := Option.some.inj ((show Tryd.prog.funcNamed "bootchain/bootchainlaw21.EvidenceTampered" = some 8 by kernel_rfl).symm.trans hf) |>.symm
  obtain rfl : fn = Tryd.f8 := (Option.some.inj (Tryd.func8.symm.trans hfn)).symm
  refine ⟨by kernel_rfl, fun j t ht => ?_⟩
  rw [Tryd.params8] at ht
  have e : t = 23 ∨ t = 24 ∨ t = 5 := by simpa using Array.mem_of_getElem? ht
  rcases e with rfl | rfl | rfl
  · exact (show Tryd.prog.wantsStandIn 23 = false by kernel_rfl)
  · exact (show Tryd.prog.wantsStandIn 24 = false by kernel_rfl)
  · exact (show Tryd.prog.wantsStandIn 5 = false by kernel_rfl)

theorem etamp_proved : Rows.EvidenceTamperedUptoCardSaid :=
  Claim7.holds_tied_plain_at .later [] _ _ _ _ etamp_said (fun _ h => by cases h) (by kernel_rfl) (fun _ h => by cases h) evidenceTamperedUpto_row_tie rfl ⟨rfl, rfl⟩ (by kernel_rfl) rfl etamp_plain (by kernel_rfl)
end Go.Proofs.YtgihhhdeoaplhaaDoor
