/- The statement RegisterCodeIgnoresInputs. -/
import Derived.Test.YtcobalpbencboaaDoorBi
import Derived.Test.YtcobalpbencboaaDoorBb
import Derived.Test.YtcobalpbencboaaDoorBj

/- Package register: plain mathematics: which parts of a log the registers depend on. -/
namespace Go.Proofs.YtcobalpbencboaaDoor
set_option linter.unusedSimpArgs false
set_option linter.unusedVariables false
open Go.RowKit Go.Sl

theorem ext_code {r1 r2 : Rg} {h1 h2 : Hd} (hr : r1.1 = r2.1) (e1 : h1.1 = h2.1) (e2 : h1.2.2 = h2.2.2) : (extM r1 h1).1 = (extM r2 h2).1 := by
  simp only [extM]
  rw [hr, e1, e2]
theorem ext_input {r1 r2 : Rg} {h1 h2 : Hd} (hr : r1.2.1 = r2.2.1) (e1 : h1.2.1 = h2.2.1) : (extM r1 h1).2.1 = (extM r2 h2).2.1 := by
  simp only [extM]
  rw [hr, e1]
theorem head_code (a1 : Dg) (a2 b2 : List Int) (a3 : List Int × List Int × Int × Unit) : (headM (a1, a2, a3)).1 = (headM (a1, b2, a3)).1 ∧ (headM (a1, a2, a3)).2.2 = (headM (a1, b2, a3)).2.2 := by
  simp only [headM]
  exact ⟨trivial, trivial⟩
theorem head_input (a1 b1 : Dg) (a2 : List Int) (a3 b3 : List Int × List Int × Int × Unit) : (headM (a1, a2, a3)).2.1 = (headM (b1, a2, b3)).2.1 := by
  simp only [headM]
theorem fold_code : ∀ (l1 l2 : List Ev) (r1 r2 : Rg), l1.map (fun e => (e.1, e.2.2)) = l2.map (fun e => (e.1, e.2.2)) → r1.1 = r2.1 → (l1.foldl (fun r e => extM r (headM e)) r1).1 = (l2.foldl (fun r e => extM r (headM e)) r2).1
  | [], [], _, _, _, h => h
  | [], _ :: _, _, _, h, _ => by cases h
  | _ :: _, [], _, _, h, _ => by cases h
  | a :: l1, b :: l2, r1, r2, h, hr => by
    simp only [List.map_cons, List.cons.injEq] at h
    obtain ⟨h1, h2⟩ := h
    rw [List.foldl_cons, List.foldl_cons]
    refine fold_code l1 l2 _ _ h2 ?_
    obtain ⟨a1, a2, a3⟩ := a
    obtain ⟨b1, b2, b3⟩ := b
    simp only [Prod.mk.injEq] at h1
    obtain ⟨rfl, rfl⟩ := h1
    have := head_code a1 a2 b2 a3
    exact ext_code hr this.1 this.2
theorem fold_input : ∀ (l1 l2 : List Ev) (r1 r2 : Rg), l1.map (fun e => e.2.1) = l2.map (fun e => e.2.1) → r1.2.1 = r2.2.1 → (l1.foldl (fun r e => extM r (headM e)) r1).2.1 = (l2.foldl (fun r e => extM r (headM e)) r2).2.1
  | [], [], _, _, _, h => h
  | [], _ :: _, _, _, h, _ => by cases h
  | _ :: _, [], _, _, h, _ => by cases h
  | a :: l1, b :: l2, r1, r2, h, hr => by
    simp only [List.map_cons, List.cons.injEq] at h
    obtain ⟨h1, h2⟩ := h
    rw [List.foldl_cons, List.foldl_cons]
    refine fold_input l1 l2 _ _ h2 ?_
    obtain ⟨a1, a2, a3⟩ := a
    obtain ⟨b1, b2, b3⟩ := b
    obtain rfl : a2 = b2 := h1
    exact ext_input hr (head_input a1 b1 a2 a3 b3)

/-- The log with other inputs; the inputs with another log. -/
def codeL (log other : List Ev) (n : Nat) : List Ev := (List.range n).filterMap fun i => match log[i]?, other[i]? with | some a, some b => some (a.1, b.2.1, a.2.2) | _, _ => none
theorem codeL_succ {log other : List Ev} {i : Nat} (h : i < log.length) (h2 : i < other.length) : codeL log other (i + 1) = codeL log other i ++ [(log[i].1, other[i].2.1, log[i].2.2)] := by
  rw [codeL, List.range_succ, List.filterMap_append]
  simp [codeL, List.getElem?_eq_getElem h, List.getElem?_eq_getElem h2]
theorem codeL_map {log other : List Ev} : ∀ (n : Nat), n ≤ log.length → n ≤ other.length → (codeL log other n).map (fun e => (e.1, e.2.2)) = (log.take n).map (fun e => (e.1, e.2.2))
  | 0, _, _ => by simp [codeL]
  | n + 1, h, h2 => by
    rw [codeL_succ (by omega) (by omega), List.map_append, codeL_map n (by omega) (by omega), List.take_succ_eq_append_getElem (by omega), List.map_append]
    rfl
theorem codeL_map2 {log other : List Ev} : ∀ (n : Nat), n ≤ log.length → n ≤ other.length → (codeL other log n).map (fun e => e.2.1) = (log.take n).map (fun e => e.2.1)
  | 0, _, _ => by simp [codeL]
  | n + 1, h, h2 => by
    rw [codeL_succ (by omega) (by omega), List.map_append, codeL_map2 n (by omega) (by omega), List.take_succ_eq_append_getElem (by omega), List.map_append]
    rfl
theorem codeL_len {log other : List Ev} : ∀ (n : Nat), n ≤ log.length → n ≤ other.length → (codeL log other n).length = n
  | 0, _, _ => by simp [codeL]
  | n + 1, h, h2 => by rw [codeL_succ (by omega) (by omega), List.length_append, codeL_len n (by omega) (by omega)]; rfl
theorem code_same (m : Dg) {log other : List Ev} (h : log.length ≤ other.length) : (foldM m (codeL log other log.length)).1 = (foldM m log).1 :=
  fold_code _ _ _ _ (by rw [codeL_map _ (Nat.le_refl _) h, List.take_length]) rfl
theorem input_same (m : Dg) {log other : List Ev} (h : log.length ≤ other.length) : (foldM m (codeL other log log.length)).2.1 = (foldM m log).2.1 :=
  fold_input _ _ _ _ (by rw [codeL_map2 _ (Nat.le_refl _) h, List.take_length]) rfl
theorem codeL_mem {log other : List Ev} {P1 P2 : Ev → Prop} (h1 : ∀ e ∈ log, P1 e) (h2 : ∀ e ∈ other, P2 e) {Q : Ev → Prop} (hq : ∀ a b, P1 a → P2 b → Q (a.1, b.2.1, a.2.2)) (n : Nat) : ∀ e ∈ codeL log other n, Q e := by
  intro e he
  obtain ⟨i, _, hi⟩ := List.mem_filterMap.1 he
  split at hi
  · rename_i a b ha hb
    cases hi
    exact hq a b (h1 a (List.mem_of_getElem? ha)) (h2 b (List.mem_of_getElem? hb))
  · cases hi
end Go.Proofs.YtcobalpbencboaaDoor

/- The statement RegisterCodeIgnoresInputs, walked (begun; not built yet). -/
--@u32
--@hgp
--@flat
--@dg
--@ex0
namespace Go.Proofs.YtcobalpbencboaaDoor
set_option linter.unusedSimpArgs false
set_option linter.unusedVariables false
open Go.RowKit Go.Sl

theorem r_list1 {α : Type} [Rep α] {S : Snap} {u : Value} {xs : List α} (h : RSl S u xs) : Rep.R S [u] xs := ⟨u, rfl, h⟩

set_option maxRecDepth 8000 in
set_option maxHeartbeats 2000000 in
theorem codeign_c {S M} (w : World) (hst : St S M w) (hG : Glob S) (m : Dg) (hm : m.l.length = 16) (vl : Value) (log : List Ev) (hl : RSl S vl log) (hlm : log.length ≤ 1048576) (vo : Value) (other : List Ev) (ho : RSl S vo other) (hom : other.length ≤ 1048576) :
    Rets Tryd.prog 11 [dgV m, vl, vo] w fun v w' => v = .bool true ∧ St S M w' := by
  unfold Rets
  haveI : LenIs m.l 16 := ⟨hm⟩
  have hl1 := hl.oneCell
  have ho1 := ho.oneCell
  obtain ⟨f1, hf1⟩ : ∃ b, fewM log = b := ⟨_, rfl⟩
  obtain ⟨f2, hf2⟩ : ∃ b, fewM other = b := ⟨_, rfl⟩
  have c1 := fun {S : Snap} {M : List Chunk} (w : World) (hst : St S M w) (hl : RSl S vl log) => (few_c w hst vl log hl hlm).eq hf1
  have c2 := fun {S : Snap} {M : List Chunk} (w : World) (hst : St S M w) (hl : RSl S vo other) => (few_c w hst vo other hl hom).eq hf2
  cases f1 with
  | false =>
    go_enter Tryd.func11, Tryd.ntmps11
    repeat' (first | go_skip | (((with_reducible refine Sl.k_call ?_; (first | (refine s_call (rsanity_c _ hst hG) inX rfl ?_; clear hst; rintro v w ⟨rfl, hst⟩) | (refine s_call (c1 _ hst hl) inX rfl ?_; clear hst; rintro v w ⟨rfl, hst⟩)))) <;> (try refine nY ?_) <;> (try replace hst := nH hst)) | ((fail_if_success (go_big_may)); (go_step)) | (with_reducible refine Sl.gate rfl ?_; (go_step)) | (((((refine s_box hst evX rfl ?_; clear hst; intro bx w hst)))) <;> (try refine nY ?_) <;> (try replace hst := nH hst)))
    go_ret
    exact ⟨_, rfl, rfl, hst.drop⟩
  | true =>
    cases f2 with
    | false =>
      go_enter Tryd.func11, Tryd.ntmps11
      repeat' (first | go_skip | (((with_reducible refine Sl.k_guard ?_; ((refine Sl.guard_yes rfl ?_)))) <;> (try refine nY ?_)) | (((with_reducible refine Sl.k_call ?_; (first | (refine s_call (rsanity_c _ hst hG) inX rfl ?_; clear hst; rintro v w ⟨rfl, hst⟩) | (refine s_call (c1 _ hst hl) inX rfl ?_; clear hst; rintro v w ⟨rfl, hst⟩) | (refine s_call (c2 _ hst ho) inX rfl ?_; clear hst; rintro v w ⟨rfl, hst⟩)))) <;> (try refine nY ?_) <;> (try replace hst := nH hst)) | ((fail_if_success (go_big_may)); (go_step)) | (with_reducible refine Sl.gate rfl ?_; (go_step)) | (((((refine s_box hst evX rfl ?_; clear hst; intro bx w hst)))) <;> (try refine nY ?_) <;> (try replace hst := nH hst)))
      go_ret
      exact ⟨_, rfl, rfl, hst.drop⟩
    | true =>
      obtain ⟨k1, e1⟩ := fewM_of hf1
      obtain ⟨k2, e2⟩ := fewM_of hf2
      by_cases hlt : other.length < log.length
      · go_enter Tryd.func11, Tryd.ntmps11
        repeat' (first | (((with_reducible refine Sl.k_guard ?_; ((refine Sl.guard_yes rfl ?_)))) <;> (try refine nY ?_)) | (((with_reducible refine Sl.k_call ?_; (first | (refine s_call (rsanity_c _ hst hG) inX rfl ?_; clear hst; rintro v w ⟨rfl, hst⟩) | (refine s_call (c1 _ hst hl) inX rfl ?_; clear hst; rintro v w ⟨rfl, hst⟩) | (refine s_call (c2 _ hst ho) inX rfl ?_; clear hst; rintro v w ⟨rfl, hst⟩)))) <;> (try refine nY ?_) <;> (try replace hst := nH hst)) | ((fail_if_success (go_big_may)); (go_step)) | (((with_reducible refine Sl.k_call ?_; (refine s_qt hst (by exact qt_len evX asX inX) ?_))) <;> (try refine nY ?_)) | (with_reducible refine Sl.gate rfl ?_; (go_step)) | (((((refine s_box hst evX rfl ?_; clear hst; intro bx w hst)))) <;> (try refine nY ?_) <;> (try replace hst := nH hst)))
        go_ret
        exact ⟨_, rfl, rfl, hst.drop⟩
      · go_enter Tryd.func11, Tryd.ntmps11
        repeat' (first | (((with_reducible refine Sl.k_guard ?_; ((refine Sl.guard_yes rfl ?_)))) <;> (try refine nY ?_)) | (((with_reducible refine Sl.k_call ?_; (first | (refine s_call (rsanity_c _ hst hG) inX rfl ?_; clear hst; rintro v w ⟨rfl, hst⟩) | (refine s_call (c1 _ hst hl) inX rfl ?_; clear hst; rintro v w ⟨rfl, hst⟩) | (refine s_call (c2 _ hst ho) inX rfl ?_; clear hst; rintro v w ⟨rfl, hst⟩)))) <;> (try refine nY ?_) <;> (try replace hst := nH hst)) | ((fail_if_success (go_big_may)); (go_step)) | (((with_reducible refine Sl.k_call ?_; (refine s_qt hst (by exact qt_len evX asX inX) ?_))) <;> (try refine nY ?_)) | (with_reducible refine Sl.gate rfl ?_; (go_step)) | (((((refine s_box hst evX rfl ?_; clear hst; intro bx w hst)))) <;> (try refine nY ?_) <;> (try replace hst := nH hst)))
        have hst := hst.nil 40 20
        have hst := hst.nil 40 20
        go_loopw [8, 9, 10] (fun u1 u2 v wr => ∃ (n : Nat) (c d : List Value), n ≤ log.length ∧ v = .int .i64 n ∧ RL S c (codeL log other n) ∧ RL S d (codeL other log n) ∧ u1.oneCell' = true ∧ u2.oneCell' = true ∧ St S (.sl u2 40 20 n d :: .sl u1 40 20 n c :: .box bx (u8s m.l) 28 :: M) wr) (fun _ _ v _ => log.length - (intOf v).toNat)
        case atStart => exact ⟨0, [], [], Nat.zero_le _, rfl, RL.nil, RL.nil, rfl, rfl, hst⟩
        case round =>
          clear hst
          obtain ⟨n, c, d, hn, rfl, hc, hd, ho1', ho2', hst⟩ := hrel
          by_cases hlt2 : n < log.length
          · have hlo : n < other.length := by omega
            repeat' ((fail_if_success (with_reducible show Code.wp _ (Code.region 10 _ _) _ _ _)); first | ((fail_if_success (go_big_may)); (go_step)) | ((first | (with_reducible refine Sl.k_load ?_; ((refine s_ex hst (qt_ldp evX asX inX) ?_; rintro v ⟨cl, rfl, hcl⟩))) | (with_reducible refine Sl.k_index ?_; (((refine s_ex hst (qt_index evX asX rfl inX inX omX omX) ?_); rintro v hp; (try simp only [Int.toNat_natCast, Int.toNat_natCast_add_one, Int.reduceToNat] at hp)))) | (with_reducible refine Sl.k_call ?_; (refine s_qt hst (by exact qt_len evX asX inX) ?_))) <;> (try refine nY ?_)) | (with_reducible refine Sl.gate rfl ?_; (go_step)) | ((((first | (with_reducible refine Sl.k_store ?_; (refine s_stR hst rfl BoxIn.h evX asX inX rfl rfl ?_); clear hst; intro w hst) | (refine s_alloc hst inX ?_; clear hst; intro bk w hst)))) <;> (try refine nY ?_) <;> (try replace hst := nH hst)))
            repeat' (first | ((fail_if_success (go_big_may)); (go_step)) | ((first | (with_reducible refine Sl.k_load ?_; ((refine s_ex hst (qt_ldp_list evX asX inX) ?_; rintro v ⟨hvl, hv1⟩))) | (with_reducible refine Sl.k_field ?_; (first | refine s_qt hst (qt_field rfl inX) ?_ | ((refine s_ex hst (qt_fieldp evX asX inX inX rfl) ?_); rintro v hp; (try simp only [Int.toNat_natCast, Int.toNat_natCast_add_one, Int.reduceToNat] at hp)))) | (with_reducible refine Sl.k_index ?_; (((refine s_ex hst (qt_index evX asX rfl inX inX omX omX) ?_); rintro v hp; (try simp only [Int.toNat_natCast, Int.toNat_natCast_add_one, Int.reduceToNat] at hp))))) <;> (try refine nY ?_)))
            refine s_stP 1 hst evX BoxIn.h inX rfl hcl inX evX (r_list1 hvl) (fun _ => rfl) ?_
            clear hst hcl; intro w cl hcl hst
            (try refine nY ?_)
            (try replace hst := nH hst)
            repeat' (first | (((with_reducible (refine Sl.k_load ?_; with_unfolding_all refine s_qt hst (qt_loadF rfl BoxIn.h hcl inX) ?_))) <;> (try refine nY ?_)) | ((fail_if_success (go_big_may)); (go_step)))
            have hcl20 : cl.length = 20 := Rep.len hcl
            refine s_lit (vs := [.agg cl.toArray]) (cs := cl) hst inX inX rfl rfl (by simp [Value.cells, hcl20]) (by simp [Value.cells]) (by omega) (by omega) ?_
            clear hst; intro x w hst
            (try refine nY ?_)
            refine s_append (j := 0) hst evX evX SlIn.h rfl inX inX inX (Rep.one hcl) (by omega) (by omega) (by decide) ?_
            clear hst; intro x2 w hst
            (try refine nY ?_)
            (try replace hst := nH hst)
            replace hst := hst.drop
            have hone1 := sl_onek hst (k := 2) rfl
            replace hc := hc.append (RL.one_mk hcl)
            clear hcl hcl20
            clear hvl
            generalize c ++ cl = c' at *
            repeat' ((fail_if_success (with_reducible show Code.wp _ (Code.region 13 _ _) _ _ _)); first | ((fail_if_success (go_big_may)); (go_step)) | ((first | (with_reducible refine Sl.k_load ?_; ((refine s_ex hst (qt_ldp evX asX inX) ?_; rintro v ⟨cl, rfl, hcl⟩))) | (with_reducible refine Sl.k_index ?_; (((refine s_ex hst (qt_index evX asX rfl inX inX omX omX) ?_); rintro v hp; (try simp only [Int.toNat_natCast, Int.toNat_natCast_add_one, Int.reduceToNat] at hp))))) <;> (try refine nY ?_)) | ((((first | (with_reducible refine Sl.k_store ?_; (refine s_stR hst rfl BoxIn.h evX asX inX rfl rfl ?_); clear hst; intro w hst) | (refine s_alloc hst inX ?_; clear hst; intro bk w hst)))) <;> (try refine nY ?_) <;> (try replace hst := nH hst)))
            repeat' (first | ((fail_if_success (go_big_may)); (go_step)) | ((first | (with_reducible refine Sl.k_load ?_; ((refine s_ex hst (qt_ldp_list evX asX inX) ?_; rintro v ⟨hvl, hv1⟩))) | (with_reducible refine Sl.k_field ?_; (first | refine s_qt hst (qt_field rfl inX) ?_ | ((refine s_ex hst (qt_fieldp evX asX inX inX rfl) ?_); rintro v hp; (try simp only [Int.toNat_natCast, Int.toNat_natCast_add_one, Int.reduceToNat] at hp)))) | (with_reducible refine Sl.k_index ?_; (((refine s_ex hst (qt_index evX asX rfl inX inX omX omX) ?_); rintro v hp; (try simp only [Int.toNat_natCast, Int.toNat_natCast_add_one, Int.reduceToNat] at hp))))) <;> (try refine nY ?_)))
            refine s_stP 1 hst evX BoxIn.h inX rfl hcl inX evX (r_list1 hvl) (fun _ => rfl) ?_
            clear hst hcl; intro w cl hcl hst
            (try refine nY ?_)
            (try replace hst := nH hst)
            repeat' (first | (((with_reducible (refine Sl.k_load ?_; with_unfolding_all refine s_qt hst (qt_loadF rfl BoxIn.h hcl inX) ?_))) <;> (try refine nY ?_)) | ((fail_if_success (go_big_may)); (go_step)))
            have hcl20 : cl.length = 20 := Rep.len hcl
            refine s_lit (vs := [.agg cl.toArray]) (cs := cl) hst inX inX rfl rfl (by simp [Value.cells, hcl20]) (by simp [Value.cells]) (by omega) (by omega) ?_
            clear hst; intro x w hst
            (try refine nY ?_)
            refine s_append (j := 0) hst evX evX SlIn.h rfl inX inX inX (Rep.one hcl) (by omega) (by omega) (by decide) ?_
            clear hst; intro x2 w hst
            (try refine nY ?_)
            (try replace hst := nH hst)
            replace hst := hst.drop
            have hone2 := sl_onek hst (k := 2) rfl
            replace hd := hd.append (RL.one_mk hcl)
            repeat' (first | ((fail_if_success (go_big_may)); (go_step)) | (with_reducible refine Sl.gate rfl ?_; (go_step)))
            go_roundw
            case rel => exact ⟨n + 1, _, _, by omega, by go_num, by rw [codeL_succ hlt2 hlo]; exact hc, by rw [codeL_succ hlo hlt2]; exact hd, hone1, hone2, hst.drop.drop⟩
            case measure => simp [intOf]; omega
          · obtain rfl : n = log.length := by omega
            have hcl1 := codeL_len (log := log) (other := other) log.length (Nat.le_refl _) (by omega)
            have hdl1 := codeL_len (log := other) (other := log) log.length (by omega) (Nat.le_refl _)
            obtain ⟨S2, hS2, hst, hd2⟩ := St.freeze (α := Ev) hst hd (by omega)
            obtain ⟨S3, hS3, hst, hc3⟩ := St.freeze (α := Ev) hst (hc.mono hS2) (by omega)
            replace hd2 := hd2.mono hS3
            replace hl := (hl.mono hS2).mono hS3
            replace hG := (hG.mono hS2).mono hS3
            have q1 : ∀ e ∈ codeL log other log.length, evOk e := codeL_mem e1 e2 (fun x y hx hy => ⟨hy.ok.1, hx.ok.2.1, hx.ok.2.2⟩) _
            have q2 : ∀ e ∈ codeL other log log.length, evOk e := codeL_mem e2 e1 (fun x y hx hy => ⟨hy.ok.1, hx.ok.2.1, hx.ok.2.2⟩) _
            have s1 := code_same m (log := log) (other := other) (by omega)
            have s2 := input_same m (log := log) (other := other) (by omega)
            have okR := foldM_ok m log
            have okX := foldM_ok m (codeL log other log.length)
            have okY := foldM_ok m (codeL other log log.length)
            have cR := fun {S : Snap} {M : List Chunk} (w : World) (hst : St S M w) (hG : Glob S) (hl : RSl S vl log) => fold_c w hst hG m hm vl log hl (by omega) (fun e he => (e1 e he).ok)
            have cX := fun {S : Snap} {M : List Chunk} (w : World) (hst : St S M w) (hG : Glob S) (hl : RSl S u8 (codeL log other log.length)) => fold_c w hst hG m hm u8 _ hl (by omega) q1
            have cY := fun {S : Snap} {M : List Chunk} (w : World) (hst : St S M w) (hG : Glob S) (hl : RSl S u9 (codeL other log log.length)) => fold_c w hst hG m hm u9 _ hl (by omega) q2
            generalize foldM m log = R at *
            generalize foldM m (codeL log other log.length) = X at *
            generalize foldM m (codeL other log log.length) = Y at *
            repeat' (first | (((with_reducible refine Sl.k_call ?_; ((refine s_call (cR _ hst hG hl) inX rfl ?_; clear hst; rintro v w ⟨rfl, hst⟩)))) <;> (try refine nY ?_) <;> (try replace hst := nH hst)) | ((fail_if_success (go_big_may)); (go_step)) | ((first | (with_reducible refine Sl.k_load ?_; (refine s_qt hst (by exact qt_loadD evX BoxIn.h inX inX) ?_)) | (with_reducible refine Sl.k_call ?_; (refine s_qt hst (by exact qt_len evX asX inX) ?_))) <;> (try refine nY ?_)) | (with_reducible refine Sl.gate rfl ?_; (go_step)) | (((((refine s_alloc hst inX ?_; clear hst; intro bk w hst)))) <;> (try refine nY ?_) <;> (try replace hst := nH hst)))
            refine s_stW0 hst rfl BoxIn.h inX (x0 := R) (cs := rgC R) evX (r_rg okR) rfl ?_
            clear hst; intro w hst
            (try refine nY ?_)
            (try replace hst := nH hst)
            repeat' (first | (((with_reducible refine Sl.k_call ?_; ((refine s_call (cX _ hst hG hc3) inX rfl ?_; clear hst; rintro v w ⟨rfl, hst⟩)))) <;> (try refine nY ?_) <;> (try replace hst := nH hst)) | ((fail_if_success (go_big_may)); (go_step)) | (((with_reducible refine Sl.k_load ?_; (refine s_qt hst (by exact qt_loadD evX BoxIn.h inX inX) ?_))) <;> (try refine nY ?_)) | (((((refine s_alloc hst inX ?_; clear hst; intro bk w hst)))) <;> (try refine nY ?_) <;> (try replace hst := nH hst)))
            refine s_stW0 hst rfl BoxIn.h inX (x0 := X) (cs := rgC X) evX (r_rg okX) rfl ?_
            clear hst; intro w hst
            (try refine nY ?_)
            (try replace hst := nH hst)
            repeat' (first | (((with_reducible refine Sl.k_call ?_; ((refine s_call (cY _ hst hG hd2) inX rfl ?_; clear hst; rintro v w ⟨rfl, hst⟩)))) <;> (try refine nY ?_) <;> (try replace hst := nH hst)) | ((fail_if_success (go_big_may)); (go_step)) | (((with_reducible refine Sl.k_load ?_; (refine s_qt hst (by exact qt_loadD evX BoxIn.h inX inX) ?_))) <;> (try refine nY ?_)) | (((((refine s_alloc hst inX ?_; clear hst; intro bk w hst)))) <;> (try refine nY ?_) <;> (try replace hst := nH hst)))
            refine s_stW0 hst rfl BoxIn.h inX (x0 := Y) (cs := rgC Y) evX (r_rg okY) rfl ?_
            clear hst; intro w hst
            (try refine nY ?_)
            (try replace hst := nH hst)
            obtain ⟨S4, hS4, hst, hpY⟩ := pt_box (α := Rg) hst (r_rg okY) (Rep.len (S := S3) (r_rg okY))
            obtain ⟨S5, hS5, hst, hpX⟩ := pt_box (α := Rg) hst (r_rg okX) (Rep.len (S := S3) (r_rg okX))
            obtain ⟨S6, hS6, hst, hpR⟩ := pt_box (α := Rg) hst (r_rg okR) (Rep.len (S := S3) (r_rg okR))
            replace hpY := (hpY.mono hS5).mono hS6
            replace hpX := hpX.mono hS6
            repeat' (first | ((first | (with_reducible (refine Sl.k_field ?_; (first | refine s_ex hst (qt_fieldp evX hpX inX inX rfl) ?_ | refine s_ex hst (qt_fieldp evX hpR inX inX rfl) ?_ | refine s_ex hst (qt_fieldp evX hpY inX inX rfl) ?_); rintro vf hpf)) | (with_reducible refine Sl.k_bin ?_; (first | (refine s_qt hst (qt_eqlK_b rfl rfl (r_dgx okX.a) (r_dgx okR.a) inX inX inX (by exact decide_eq_true (by assumption))) ?_) | (refine s_qt hst (qt_eqlK_b rfl rfl (r_dgx okY.b) (r_dgx okR.b) inX inX inX (by exact decide_eq_true (by assumption))) ?_))) | (with_reducible refine Sl.k_guard ?_; ((refine Sl.guard_yes rfl ?_)))) <;> (try refine nY ?_)) | ((fail_if_success (go_big_may)); (go_step)) | (((with_reducible refine Sl.k_load ?_; (refine s_qt hst (by exact qt_ldp_flat evX asX inX inX rfl) ?_))) <;> (try refine nY ?_)))
            go_ret
            exact ⟨_, rfl, rfl, St.weaken ((((hS2.trans hS3).trans hS4).trans hS5).trans hS6) hst.drop⟩
end Go.Proofs.YtcobalpbencboaaDoor

/- The statement RegisterCodeIgnoresInputs. -/
namespace Go.Proofs.YtcobalpbencboaaDoor
set_option linter.unusedSimpArgs false
set_option linter.unusedVariables false
open Go.RowKit Go.Sl Go.ChangeShapes Go.WideShapes Go.ChangeAt

set_option maxRecDepth 20000 in
theorem codeign_post (H : Type) (enc : TypeId × Value → H) (W : World) (base : Nat) (args : Array Value) (ds gs : List (DataW H)) (before : List MemPlace)
    (hval : ∀ (j : Nat) t v, Tryd.f11.params[j]? = some t → args[j]? = some v → Value.okWide Tryd.prog W .any base t v)
    (hW : DataW.Whole enc Tryd.prog Tryd.f11.params.toList Rows.registerCodeIgnoresInputsSpec.vars false W args.toList ds gs before) (hk : Rows.uptoSmall H (ds ++ gs) = true) (hL : laidMetH Tryd.prog Rows.registerCodeIgnoresInputsUptoRow.laid W) :
    Calls Tryd.prog 11 args W fun e W' => ∃ v, e = .returned v ∧ Rows.registerCodeIgnoresInputsSpec.post enc Tryd.prog Tryd.f11 false true false false W args v W' := by
  have hW' := hW
  obtain ⟨p, q, hA0, hV, rfl, hfz, hnd⟩ := hW
  have hA : DataW.TrodAll enc Tryd.prog W 0 (fun _ => true) true Tryd.f11.params.toList args.toList ds p := hA0
  have hk := small_all hk
  rw [Tryd.params11] at hA hval
  obtain ⟨v0, vs0, d0, ds0, p0, q0, hargs, rfl, rfl, h0, r0⟩ := trodAll_cons hA
  obtain ⟨v1, vs1, d1, ds1, p1, q1, rfl, rfl, rfl, h1, r1⟩ := trodAll_cons r0
  obtain ⟨v2, vs2, d2, ds2, p2, q2, rfl, rfl, rfl, h2, r2⟩ := trodAll_cons r1
  obtain ⟨rfl, rfl, rfl⟩ := trodAll_nil r2
  obtain rfl : args = #[v0, v1, v2] := by cases args; simp_all
  obtain ⟨rfl, rfl⟩ := trodVars_none hV
  simp only [List.append_nil, Rows.uptoBulkAll] at hk
  obtain ⟨d0, rfl, hd0⟩ := open_dg (hval 0 28 v0 rfl rfl) h0
  obtain ⟨l1, hl1, hm1⟩ := open_evs (hval 1 48 v1 rfl rfl) h1 (by omega)
  obtain ⟨l2, hl2, hm2⟩ := open_evs (hval 2 48 v2 rfl rfl) h2 (by omega)
  refine Calls.mono (codeign_c W (St.start W) (glob_of hL) d0 hd0 v1 l1 hl1 hm1 v2 l2 hl2 hm2) fun e W' ⟨v, he, hv, hst⟩ => ?_
  subst hv
  exact ⟨_, he, law_post (tb := 4) rfl hW' (by kernel_rfl) (by rw [Tryd.params11]; intro t ht'; have e : t = 28 ∨ t = 48 := (by simpa using ht'); rcases e with rfl | rfl <;> exact ⟨by kernel_rfl, of_decide_eq_true (by kernel_rfl)⟩) (by kernel_rfl) (by kernel_rfl) rfl rfl rfl hst.below⟩

abbrev codeign_args : Array Value := #[.agg #[.int .u8 0, .int .u8 0, .int .u8 0, .int .u8 0, .int .u8 0, .int .u8 0, .int .u8 0, .int .u8 0, .int .u8 0, .int .u8 0, .int .u8 0, .int .u8 0, .int .u8 0, .int .u8 0, .int .u8 0, .int .u8 0], .slice none 0 0, .slice none 0 0]
theorem codeign_met (os : Os) : laidMet Tryd.prog Rows.registerCodeIgnoresInputsUptoRow.laid ((laidWorld os #[]).forCall (fun _ _ => 0) ⟨#[], codeign_args, []⟩).memory :=
  laidMet_of_run' 8 (by kernel_rfl) (by kernel_rfl)
theorem codeign_reads (os : Os) {H : Type} (enc : TypeId × Value → H) : ∃ places, DataW.whole enc Tryd.prog ((laidWorld os #[]).forCall (fun _ _ => 0) ⟨#[], codeign_args, []⟩).memory Tryd.f11.params.toList Rows.registerCodeIgnoresInputsSpec.vars false codeign_args.toList 8 = some ([.agg [.lit (.int .u8 0), .lit (.int .u8 0), .lit (.int .u8 0), .lit (.int .u8 0), .lit (.int .u8 0), .lit (.int .u8 0), .lit (.int .u8 0), .lit (.int .u8 0), .lit (.int .u8 0), .lit (.int .u8 0), .lit (.int .u8 0), .lit (.int .u8 0), .lit (.int .u8 0), .lit (.int .u8 0), .lit (.int .u8 0), .lit (.int .u8 0)], .nil, .nil], [], places) :=
  ⟨[], by kernel_rfl⟩

set_option maxRecDepth 100000 in
theorem codeign_lifted (os : Os) (started : os.Started) (H : Type) (enc : TypeId × Value → H) (F : Stop.Interp) :
    ReturnsInHanded {} Tryd.checked os 11 .any ((Rows.OpenSpec.upto Rows.registerCodeIgnoresInputsSpec).preRow enc Tryd.prog Tryd.f11 Rows.registerCodeIgnoresInputsUptoRow.domain false Rows.registerCodeIgnoresInputsUptoRow.laid) (((Rows.OpenSpec.upto Rows.registerCodeIgnoresInputsSpec).at F).post enc Tryd.prog Tryd.f11 false true false false) := by
  obtain ⟨places, hx⟩ := codeign_reads os enc
  refine returnsInHanded_of_row (C := Tryd.checked) (s := Rows.OpenSpec.upto Rows.registerCodeIgnoresInputsSpec) own started (by kernel_rfl) Tryd.func11
    (witness_row_at (enc := enc) (C := Tryd.checked) false (laidWorld os #[]) codeign_args rfl (by kernel_rfl) (by kernel_rfl) (by kernel_rfl)
      (OpenSpec.preRow_of_cond 8 hx (by kernel_rfl) (fun k hk => by cases hk; kernel_rfl) (by kernel_rfl) (codeign_met os))) ?_
  intro W base args ds gs before hval hW _ hc _ hL _ _
  exact codeign_post H enc W base args ds gs before hval hW (hc _ rfl) hL

theorem codeign_said : Rows.RegisterCodeIgnoresInputsUptoSaid :=
  OpenClaim.holds_of_cond 11 Tryd.f11 rfl rfl rfl rfl rfl rfl rfl ⟨rfl, rfl, rfl, rfl, rfl⟩ rfl rfl rfl rfl rfl (by kernel_rfl) Tryd.func11 (by kernel_rfl)
    (of_decide_eq_true (by kernel_rfl)) (by unfold Func.isWrapper; first | (rw [if_pos (by decide +kernel)]; kernel_rfl) | (rw [if_neg (by decide +kernel)]; exact ⟨rfl, rfl⟩))
    (fun os started H enc _ F => by rw [OpenClaim.pre_eq_preRow]; exact codeign_lifted os started H enc F)

theorem codeign_plain (f : FuncId) (fn : Func) (hf : Tryd.pinned.checked.prog.funcNamed "bootchain/bootchainlaw20.RegisterCodeIgnoresInputs" = some f) (hfn : Tryd.pinned.checked.prog.funcs[f]? = some fn) :
    false = Tryd.pinned.checked.prog.looks [] ∧ ∀ (j : Nat) t, fn.params[j]? = some t → Tryd.pinned.checked.prog.wantsStandIn t = false := by
  obtain rfl : f = 11 := Option.some.inj ((show Tryd.prog.funcNamed "bootchain/bootchainlaw20.RegisterCodeIgnoresInputs" = some 11 by kernel_rfl).symm.trans hf) |>.symm
  obtain rfl : fn = Tryd.f11 := (Option.some.inj (Tryd.func11.symm.trans hfn)).symm
  refine ⟨by kernel_rfl, fun j t ht => ?_⟩
  rw [Tryd.params11] at ht
  have e : t = 28 ∨ t = 48 := by simpa using Array.mem_of_getElem? ht
  rcases e with rfl | rfl
  · exact (show Tryd.prog.wantsStandIn 28 = false by kernel_rfl)
  · exact (show Tryd.prog.wantsStandIn 48 = false by kernel_rfl)

theorem codeign_proved : Rows.RegisterCodeIgnoresInputsUptoCardSaid :=
  Claim7.holds_tied_plain_at .later [] _ _ _ _ codeign_said (fun _ h => by cases h) (by kernel_rfl) (fun _ h => by cases h) registerCodeIgnoresInputsUpto_row_tie rfl ⟨rfl, rfl⟩ (by kernel_rfl) rfl codeign_plain (by kernel_rfl)
end Go.Proofs.YtcobalpbencboaaDoor
