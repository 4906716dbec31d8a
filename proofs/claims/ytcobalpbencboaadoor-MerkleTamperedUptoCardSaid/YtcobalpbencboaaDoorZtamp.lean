/- The statement MerkleTampered is proved: a proof no longer verifies after a change of the root or of its length, for at most 40 leaves. -/
import Derived.Test.YtcobalpbencboaaDoorBb
import Derived.Test.YtcobalpbencboaaDoorBe

/- The statement MerkleTampered, walked. -/
--@u32
--@hgp
--@flat
--@dg
--@ex0
--@b8
namespace Go.Proofs.YtcobalpbencboaaDoor
set_option linter.unusedSimpArgs false
set_option linter.unusedVariables false
open Go.RowKit Go.Sl

theorem set_ne {d : Dg} {j : Nat} (h : j < d.l.length) : (⟨d.l.set j ((d.l.getD j 0) ^^^ 1)⟩ : Dg) ≠ d := by
  intro e
  have e1 := congrArg (fun x : Dg => x.l[j]?) e
  simp only [List.getElem?_set_self h, List.getD_eq_getElem?_getD, List.getElem?_eq_getElem h, Option.getD_some, Option.some.injEq] at e1
  have h1 : d.l[j] ^^^ (d.l[j] ^^^ 1) = d.l[j] ^^^ d.l[j] := by rw [e1]
  rw [← UInt8.xor_assoc, UInt8.xor_self, UInt8.zero_xor] at h1
  exact absurd h1 (by decide)

theorem fin_app {S : Snap} {M : List Chunk} {w : World} {x y : Value} {T T' : TypeId} {n z m : Nat} {c c2 : List Value} {xs : List Dg} (hx : ∀ d ∈ xs, d.l.length = 16) (h : St S (.sl x T 16 n c :: .sl y T' z m c2 :: M) w) (hc : c = cF dgC xs) (hn : n = xs.length) : ∃ S', S.Le S' ∧ RSl S' x xs ∧ St S' M w :=
  let ⟨S', h1, h2, h3⟩ := lit_dgs xs hx h.swap.drop hc hn
  ⟨S', h1, h3, h2⟩
theorem fin_app' {S : Snap} {M : List Chunk} {w : World} {x y : Value} {T T' : TypeId} {n z m : Nat} {c c2 : List Value} {xs : List Dg} (hx : ∀ d ∈ xs, d.l.length = 16) (h : St S (.sl y T' z m c2 :: .sl x T 16 n c :: M) w) (hc : c = cF dgC xs) (hn : n = xs.length) : ∃ S', S.Le S' ∧ RSl S' x xs ∧ St S' M w :=
  let ⟨S', h1, h2, h3⟩ := lit_dgs xs hx h.drop hc hn
  ⟨S', h1, h3, h2⟩
theorem dgs_flat {S : Snap} {c : List Value} {xs : List Dg} (h : RL S c xs) (hx : ∀ d ∈ xs, d.l.length = 16) : c = cF dgC xs := by
  obtain ⟨hl, hg⟩ := h
  have hz : Rep.z Dg = 16 := rfl
  rw [hz] at hl
  apply List.ext_getElem?
  intro k
  rcases Nat.lt_or_ge k c.length with hk | hk
  · have hi : k / 16 < xs.length := by omega
    have h1 := hg (k / 16) _ (List.getElem?_eq_getElem hi)
    have h2 := (rl_dgs (S := S) xs hx).2 (k / 16) _ (List.getElem?_eq_getElem hi)
    rw [hz] at h1 h2
    have e1 := FlatC.flat (α := Dg) (cells := fun a => u8s a.l) h1
    have e2 := FlatC.flat (α := Dg) (cells := fun a => u8s a.l) h2
    have e3 := congrArg (·[k % 16]?) (e1.trans e2.symm)
    have hm : k % 16 < 16 := Nat.mod_lt _ (by decide)
    simp only [List.getElem?_take, hm, if_true, List.getElem?_drop] at e3
    rwa [show k / 16 * 16 + k % 16 = k by omega] at e3
  · rw [List.getElem?_eq_none hk, List.getElem?_eq_none (by rw [dgc_len xs hx, ← hl]; exact hk)]

set_option maxRecDepth 8000 in
set_option maxHeartbeats 1000000 in
theorem tampered_c {S M} (w : World) (hst : St S M w) (hG : Glob S) (vl : Value) (l : List Dg) (hl : RSl S vl l) (hm : l.length ≤ 1048576) (i : Nat) (hi : i ≤ 255) (j : Nat) (hj : j ≤ 255) (more : Dg) (hmo : more.l.length = 16) :
    Rets Tryd.prog 8 [vl, .int .u8 (i : Int), .int .u8 (j : Int), dgV more] w fun v w' => v = .bool true ∧ St S M w' := by
  unfold Rets
  have hl1 := hl.oneCell
  haveI : LenIs more.l 16 := ⟨hmo⟩
  by_cases h40 : 40 < l.length
  · go_enter Tryd.func8, Tryd.ntmps8
    repeat' (first | go_skip | (((with_reducible refine Sl.k_guard ?_; ((refine Sl.guard_cases rfl ?_ ?_ <;> intro hg <;> first | (exfalso; simp only [decide_eq_true_eq, decide_eq_false_iff_not, Bool.not_false, Bool.not_true, beq_iff_eq, beq_eq_false_iff_ne, ne_eq] at hg; omega) | (simp only [hg, Bool.not_true, Bool.not_false])) <;> (try simp only [decide_eq_true_eq, decide_eq_false_iff_not, Bool.not_false, Bool.not_true, beq_iff_eq, beq_eq_false_iff_ne, bne_iff_ne, bne_eq_false_iff_eq, ne_eq] at hg)))) <;> (try refine nY ?_)) | (((with_reducible refine Sl.k_call ?_; ((refine s_call (sanity_c _ hst hG) inX rfl ?_; clear hst; rintro v w ⟨rfl, hst⟩)))) <;> (try refine nY ?_) <;> (try replace hst := nH hst)) | ((fail_if_success (go_big_may)); (go_step)) | (((with_reducible refine Sl.k_call ?_; (refine s_qt hst (by exact qt_len evX asX inX) ?_))) <;> (try refine nY ?_)) | (with_reducible refine Sl.gate rfl ?_; (go_step)) | (((((refine s_box hst evX rfl ?_; clear hst; intro bx w hst)))) <;> (try refine nY ?_) <;> (try replace hst := nH hst)))
    go_ret
    exact ⟨_, rfl, rfl, hst.drop⟩
  · by_cases h0 : l.length = 0
    · have h00 : ((l.length : Int) == 0) = true := beq_iff_eq.2 (by omega)
      clear h0
      go_enter Tryd.func8, Tryd.ntmps8
      repeat' (first | (((with_reducible refine Sl.k_guard ?_; (first | (refine Sl.guard_yes rfl ?_) | (refine Sl.guard_cases rfl ?_ ?_ <;> intro hg <;> first | (exfalso; simp only [decide_eq_true_eq, decide_eq_false_iff_not, Bool.not_false, Bool.not_true, beq_iff_eq, beq_eq_false_iff_ne, ne_eq] at hg; omega) | (simp only [hg, Bool.not_true, Bool.not_false])) <;> (try simp only [decide_eq_true_eq, decide_eq_false_iff_not, Bool.not_false, Bool.not_true, beq_iff_eq, beq_eq_false_iff_ne, bne_iff_ne, bne_eq_false_iff_eq, ne_eq] at hg)))) <;> (try refine nY ?_)) | (((with_reducible refine Sl.k_call ?_; ((refine s_call (sanity_c _ hst hG) inX rfl ?_; clear hst; rintro v w ⟨rfl, hst⟩)))) <;> (try refine nY ?_) <;> (try replace hst := nH hst)) | ((fail_if_success (go_big_may)); (go_step)) | (((with_reducible refine Sl.k_call ?_; (refine s_qt hst (by exact qt_len evX asX inX) ?_))) <;> (try refine nY ?_)) | (with_reducible refine Sl.gate rfl ?_; (go_step)) | (((((refine s_box hst evX rfl ?_; clear hst; intro bx w hst)))) <;> (try refine nY ?_) <;> (try replace hst := nH hst)))
      go_ret
      exact ⟨_, rfl, rfl, hst.drop⟩
    · have h1 : 1 ≤ l.length := by omega
      have h00 : ((l.length : Int) == 0) = false := beq_eq_false_iff_ne.2 (by omega)
      have hkl : i % l.length < l.length := Nat.mod_lt _ (by omega)
      have hke : ((i : Int) % (l.length : Int)) = ((i % l.length : Nat) : Int) := by omega
      have hje : ((j : Int) % 16) = ((j % 16 : Nat) : Int) := by omega
      have hj16 : j % 16 < 16 := by omega
      clear h0
      generalize i % l.length = k at *
      generalize j % 16 = jj at *
      have hd := hl.dgs l[k] (List.getElem_mem hkl)
      haveI : LenIs l[k].l 16 := ⟨hd⟩
      have cP := fun {S M} (w : World) (hst : St S M w) (hG : Glob S) (hl : RSl S vl l) => prove_c w hst hG vl l hl k hkl (by omega)
      have cR := fun {S M} (w : World) (hst : St S M w) (hG : Glob S) (hl : RSl S vl l) => root_c l.length w hst hG vl l hl (Nat.le_refl _) (by omega)
      have hcnt := proofM_cnt l k
      have cBad := fun {S M} (w : World) (hst : St S M w) (hG : Glob S) (u : Value) (hu : RSl S u (proofM l k)) (bad : Dg) (hb : bad.l.length = 16) (hne : bad ≠ rootM l) => (verify_c w hst hG bad l[k] hb hd l.length k (by omega) (by omega) u (proofM l k) hu (by omega)).eq (tampered_root hkl hne)
      have cLen := fun {S M} (w : World) (hst : St S M w) (hG : Glob S) (u : Value) (q : List Dg) (hq : q.length ≤ 1000) (hu : RSl S u q) (hne : q.length ≠ (proofM l k).length) => (verify_c w hst hG (rootM l) l[k] (rootM_len l) hd l.length k (by omega) (by omega) u q hu (by omega)).eq (tampered_len hkl hne)
      have hp16 := proofM_len l k
      haveI : LenIs (rootM l).l 16 := ⟨rootM_len l⟩
      have hr16 := rootM_len l
      have hne := Lib.hid (set_ne (d := rootM l) (j := jj) (by omega))
      generalize rootM l = R at *
      generalize proofM l k = pf at *
      go_enter Tryd.func8, Tryd.ntmps8
      repeat' (first | (((with_reducible refine Sl.k_guard ?_; (first | (refine Sl.guard_yes rfl ?_) | (refine Sl.guard_cases rfl ?_ ?_ <;> intro hg <;> first | (exfalso; simp only [decide_eq_true_eq, decide_eq_false_iff_not, Bool.not_false, Bool.not_true, beq_iff_eq, beq_eq_false_iff_ne, ne_eq] at hg; omega) | (simp only [hg, Bool.not_true, Bool.not_false])) <;> (try simp only [decide_eq_true_eq, decide_eq_false_iff_not, Bool.not_false, Bool.not_true, beq_iff_eq, beq_eq_false_iff_ne, bne_iff_ne, bne_eq_false_iff_eq, ne_eq] at hg)))) <;> (try refine nY ?_)) | (((with_reducible refine Sl.k_call ?_; ((refine s_call (sanity_c _ hst hG) inX rfl ?_; clear hst; rintro v w ⟨rfl, hst⟩)))) <;> (try refine nY ?_) <;> (try replace hst := nH hst)) | ((fail_if_success (go_big_may)); (go_step)) | (((with_reducible refine Sl.k_call ?_; (refine s_qt hst (by exact qt_len evX asX inX) ?_))) <;> (try refine nY ?_)) | (with_reducible refine Sl.gate rfl ?_; (go_step)) | (((((refine s_box hst evX rfl ?_; clear hst; intro bx w hst)))) <;> (try refine nY ?_) <;> (try replace hst := nH hst)))
      simp only [hke]
      clear hke
      repeat' ((fail_if_success (with_reducible show Code.wp _ (Code.region 7 _ _) _ _ _)); first | (((with_reducible refine Sl.k_call ?_; ((refine s_call (cR _ hst hG hl) inX rfl ?_; clear hst; rintro v w ⟨rfl, hst⟩)))) <;> (try refine nY ?_) <;> (try replace hst := nH hst)) | ((fail_if_success (go_big_may)); (go_step)) | ((((first | (with_reducible refine Sl.k_store ?_; (refine s_stD hst rfl BoxIn.h inX evX inX lenX ?_); clear hst; intro w hst) | (refine s_alloc hst inX ?_; clear hst; intro bk w hst)))) <;> (try refine nY ?_) <;> (try replace hst := nH hst)))
      rename Nat => b12
      repeat' (first | (((with_reducible (refine Sl.k_index ?_; refine s_qt hst (qt_indexA rfl rfl inX inX omX omX) ?_))) <;> (try refine nY ?_)) | (with_reducible refine Sl.k_bin ?_; (refine s_qt hst (qt_xor8 (b := 1) rfl rfl) ?_)) | (((with_reducible refine Sl.k_call ?_; ((refine s_call (cP _ hst hG hl) inX rfl ?_; clear hst; rintro v w ⟨u, rfl, hst⟩)))) <;> (try refine nY ?_) <;> (try replace hst := nH hst)) | ((fail_if_success (go_big_may)); (go_step)) | (((with_reducible refine Sl.k_load ?_; (refine s_qt hst (by first | exact qt_ldB8 evX BoxIn.h inX omX | exact qt_loadD evX BoxIn.h inX inX) ?_))) <;> (try refine nY ?_)) | (with_reducible refine Sl.gate rfl ?_; (go_step)) | ((((first | (with_reducible refine Sl.k_store ?_; (first | refine s_stB8 hst rfl BoxIn.h inX evX omX ?_ | refine s_stD hst rfl BoxIn.h inX evX inX lenX ?_); clear hst; intro w hst) | (refine s_alloc hst inX ?_; clear hst; intro bk w hst)))) <;> (try refine nY ?_) <;> (try replace hst := nH hst)))
      have e16 : ((j : Int) % 16).toNat = jj := by omega
      rw [e16] at hst
      clear e16
      obtain ⟨bad, hbad⟩ : ∃ bad : Dg, bad = ⟨R.l.set jj (R.l.getD jj 0 ^^^ 1)⟩ := ⟨_, rfl⟩
      have hst : St S (.box bk (u8s bad.l) 28 :: .sl u 28 16 pf.length (cF dgC pf) :: .box b12 (u8s R.l) 28 :: .box bx (u8s more.l) 28 :: M) w := by rw [hbad]; exact hst
      have hb16 : bad.l.length = 16 := by rw [hbad]; simp [hr16]
      have hne2 : bad ≠ R := by rw [hbad]; exact hne.out
      haveI : LenIs bad.l 16 := ⟨hb16⟩
      clear hbad hne
      obtain ⟨S1, hS1, hst, hu⟩ := lit_dgs pf hp16 hst.swap rfl rfl
      have hu1 := hu.oneCell
      replace hG := hG.mono hS1
      replace hl := hl.mono hS1
      have hpm16 : ∀ d ∈ pf ++ [more], d.l.length = 16 := fun d hd => by
        rcases List.mem_append.1 hd with h | h
        · exact hp16 d h
        · obtain rfl := List.mem_singleton.1 h; exact hmo
      refine v_join [55, 56, 57, 58, 59, 60, 16] (fun vs w => ∃ s55 s56 s57 s58 s59 s60 s16 : Value, vs = [s55, s56, s57, s58, s59, s60, s16] ∧ (∃ S', S1.Le S' ∧ RSl S' s16 (pf ++ [more]) ∧ St S' (.box bk (u8s bad.l) 28 :: .box b12 (u8s R.l) 28 :: .box bx (u8s more.l) 28 :: M) w)) ?_ ?_
      rotate_left
      clear hst; rintro _ w ⟨s55, s56, s57, s58, s59, s60, s16, rfl, S2, hS2, hv16, hst⟩; simp only [setMany_cons, setMany_nil]; (try refine nY ?_)
      rotate_left
      intro Q' hQ'
      refine v_begin hst (by kernel_rfl) ?_; clear hst; intro ops; (try refine nY ?_)
      (refine t_qt 1 rfl (by kernel_rfl) rfl rfl (by exact qt_move evX) ?_) <;> (try refine nY ?_)
      refine v_two 0 3 rfl rfl (by kernel_rfl) ?_ ?_
      intro w hst K hK; refine s_lit (vs := []) (cs := []) hst inX inX rfl rfl (by simp) rfl (by omega) (by omega) ?_; clear hst; intro x0 w hst; (try refine nY ?_); (try replace hst := nH hst); refine v_next hK hst (Snap.Le.refl _) (Suf.cons (Suf.refl _)) ?_; clear hst hK K; (try clear w); (try refine nY ?_)
      refine v_two 2 3 rfl rfl (by kernel_rfl) ?_ ?_
      intro w hst K hK; refine s_append_data hst evX evX SlIn.h hu inX inX inX (by omega) (by omega) (by decide) ?_; clear hst; intro x2 w c2 hc2 hst; obtain rfl := dgs_flat hc2 hp16; simp only [List.nil_append, Nat.zero_add] at hst; refine v_last hK hst ?_; clear hst hK K; (try clear w); (try refine nY ?_)
      refine v_one 3 rfl (by kernel_rfl) ?_; intro w hst K hK; refine s_qt hst (qt_loadD evX BoxIn.h inX inX) ?_; (try refine nY ?_); (try replace hst := nH hst); refine v_next hK hst (Snap.Le.refl _) (Suf.refl _) ?_; clear hst hK K; (try clear w); (try refine nY ?_)
      refine v_one 4 rfl (by kernel_rfl) ?_; intro w hst K hK; refine s_lit (vs := [dgV more]) hst inX inX rfl rfl (by simp [Value.cells, u8s_length, hmo]) rfl (by omega) (by omega) ?_; clear hst; intro x4 w hst; (try refine nY ?_); (try replace hst := nH hst); refine v_next hK hst (Snap.Le.refl _) (Suf.cons (Suf.refl _)) ?_; clear hst hK K; (try clear w); (try refine nY ?_)
      refine v_one 5 rfl (by kernel_rfl) ?_; intro w hst K hK; refine s_append hst evX evX SlIn.h SlIn.h inX inX inX (by simpa [Value.cells] using u8s_one more.l) (by omega) (by omega) (by decide) ?_; clear hst; intro x5 w hst; refine v_last hK hst ?_; clear hst hK K; (try clear w); (try refine nY ?_)
      (refine t_qt 6 rfl (by kernel_rfl) rfl rfl (by exact qt_assign evX) ?_) <;> (try refine nY ?_)
      refine v_done (by kernel_rfl) ?_; clear ops; intro w hst; refine hQ' [_, _, _, _, _, _, _] w ⟨_, _, _, _, _, _, _, rfl, ?_⟩; (exact fin_app' hpm16 hst (by rw [cF_snoc]; rfl) (by simp))
      intro w hst K hK; refine s_qt hst (qt_loadD evX BoxIn.h inX inX) ?_; (try refine nY ?_); (try replace hst := nH hst); refine v_next hK hst (Snap.Le.refl _) (Suf.refl _) ?_; clear hst hK K; (try clear w); (try refine nY ?_)
      refine v_two 2 4 rfl rfl (by kernel_rfl) ?_ ?_
      intro w hst K hK; refine s_append_data hst evX evX SlIn.h hu inX inX inX (by omega) (by omega) (by decide) ?_; clear hst; intro x2 w c2 hc2 hst; obtain rfl := dgs_flat hc2 hp16; simp only [List.nil_append, Nat.zero_add] at hst; refine v_last hK hst ?_; clear hst hK K; (try clear w); (try refine nY ?_)
      refine v_one 4 rfl (by kernel_rfl) ?_; intro w hst K hK; refine s_lit (vs := [dgV more]) hst inX inX rfl rfl (by simp [Value.cells, u8s_length, hmo]) rfl (by omega) (by omega) ?_; clear hst; intro x4 w hst; (try refine nY ?_); (try replace hst := nH hst); refine v_next hK hst (Snap.Le.refl _) (Suf.cons (Suf.refl _)) ?_; clear hst hK K; (try clear w); (try refine nY ?_)
      refine v_one 5 rfl (by kernel_rfl) ?_; intro w hst K hK; refine s_append hst evX evX SlIn.h SlIn.h inX inX inX (by simpa [Value.cells] using u8s_one more.l) (by omega) (by omega) (by decide) ?_; clear hst; intro x5 w hst; refine v_last hK hst ?_; clear hst hK K; (try clear w); (try refine nY ?_)
      (refine t_qt 6 rfl (by kernel_rfl) rfl rfl (by exact qt_assign evX) ?_) <;> (try refine nY ?_)
      refine v_done (by kernel_rfl) ?_; clear ops; intro w hst; refine hQ' [_, _, _, _, _, _, _] w ⟨_, _, _, _, _, _, _, rfl, ?_⟩; (exact fin_app' hpm16 hst (by rw [cF_snoc]; rfl) (by simp))
      intro w hst K hK; refine s_lit (vs := [dgV more]) hst inX inX rfl rfl (by simp [Value.cells, u8s_length, hmo]) rfl (by omega) (by omega) ?_; clear hst; intro x4 w hst; (try refine nY ?_); (try replace hst := nH hst); refine v_next hK hst (Snap.Le.refl _) (Suf.cons (Suf.refl _)) ?_; clear hst hK K; (try clear w); (try refine nY ?_)
      refine v_one 2 rfl (by kernel_rfl) ?_; intro w hst K hK; refine s_append_data hst evX evX SlIn.h hu inX inX inX (by omega) (by omega) (by decide) ?_; clear hst; intro x2 w c2 hc2 hst; obtain rfl := dgs_flat hc2 hp16; simp only [List.nil_append, Nat.zero_add] at hst; refine v_last hK hst ?_; clear hst hK K; (try clear w); (try refine nY ?_)
      refine v_one 5 rfl (by kernel_rfl) ?_; intro w hst K hK; refine s_append hst evX evX SlIn.h SlIn.h inX inX inX (by simpa [Value.cells] using u8s_one more.l) (by omega) (by omega) (by decide) ?_; clear hst; intro x5 w hst; refine v_last hK hst ?_; clear hst hK K; (try clear w); (try refine nY ?_)
      (refine t_qt 6 rfl (by kernel_rfl) rfl rfl (by exact qt_assign evX) ?_) <;> (try refine nY ?_)
      refine v_done (by kernel_rfl) ?_; clear ops; intro w hst; refine hQ' [_, _, _, _, _, _, _] w ⟨_, _, _, _, _, _, _, rfl, ?_⟩; (exact fin_app' hpm16 hst (by rw [cF_snoc]; rfl) (by simp))
      intro w hst K hK; refine s_qt hst (qt_loadD evX BoxIn.h inX inX) ?_; (try refine nY ?_); (try replace hst := nH hst); refine v_next hK hst (Snap.Le.refl _) (Suf.refl _) ?_; clear hst hK K; (try clear w); (try refine nY ?_)
      refine v_two 0 4 rfl rfl (by kernel_rfl) ?_ ?_
      intro w hst K hK; refine s_lit (vs := []) (cs := []) hst inX inX rfl rfl (by simp) rfl (by omega) (by omega) ?_; clear hst; intro x0 w hst; (try refine nY ?_); (try replace hst := nH hst); refine v_next hK hst (Snap.Le.refl _) (Suf.cons (Suf.refl _)) ?_; clear hst hK K; (try clear w); (try refine nY ?_)
      refine v_two 2 4 rfl rfl (by kernel_rfl) ?_ ?_
      intro w hst K hK; refine s_append_data hst evX evX SlIn.h hu inX inX inX (by omega) (by omega) (by decide) ?_; clear hst; intro x2 w c2 hc2 hst; obtain rfl := dgs_flat hc2 hp16; simp only [List.nil_append, Nat.zero_add] at hst; refine v_last hK hst ?_; clear hst hK K; (try clear w); (try refine nY ?_)
      refine v_one 4 rfl (by kernel_rfl) ?_; intro w hst K hK; refine s_lit (vs := [dgV more]) hst inX inX rfl rfl (by simp [Value.cells, u8s_length, hmo]) rfl (by omega) (by omega) ?_; clear hst; intro x4 w hst; (try refine nY ?_); (try replace hst := nH hst); refine v_next hK hst (Snap.Le.refl _) (Suf.cons (Suf.refl _)) ?_; clear hst hK K; (try clear w); (try refine nY ?_)
      refine v_one 5 rfl (by kernel_rfl) ?_; intro w hst K hK; refine s_append hst evX evX SlIn.h SlIn.h inX inX inX (by simpa [Value.cells] using u8s_one more.l) (by omega) (by omega) (by decide) ?_; clear hst; intro x5 w hst; refine v_last hK hst ?_; clear hst hK K; (try clear w); (try refine nY ?_)
      (refine t_qt 6 rfl (by kernel_rfl) rfl rfl (by exact qt_assign evX) ?_) <;> (try refine nY ?_)
      refine v_done (by kernel_rfl) ?_; clear ops; intro w hst; refine hQ' [_, _, _, _, _, _, _] w ⟨_, _, _, _, _, _, _, rfl, ?_⟩; (exact fin_app' hpm16 hst (by rw [cF_snoc]; rfl) (by simp))
      intro w hst K hK; refine s_lit (vs := [dgV more]) hst inX inX rfl rfl (by simp [Value.cells, u8s_length, hmo]) rfl (by omega) (by omega) ?_; clear hst; intro x4 w hst; (try refine nY ?_); (try replace hst := nH hst); refine v_next hK hst (Snap.Le.refl _) (Suf.cons (Suf.refl _)) ?_; clear hst hK K; (try clear w); (try refine nY ?_)
      refine v_one 2 rfl (by kernel_rfl) ?_; intro w hst K hK; refine s_append_data hst evX evX SlIn.h hu inX inX inX (by omega) (by omega) (by decide) ?_; clear hst; intro x2 w c2 hc2 hst; obtain rfl := dgs_flat hc2 hp16; simp only [List.nil_append, Nat.zero_add] at hst; refine v_last hK hst ?_; clear hst hK K; (try clear w); (try refine nY ?_)
      refine v_one 5 rfl (by kernel_rfl) ?_; intro w hst K hK; refine s_append hst evX evX SlIn.h SlIn.h inX inX inX (by simpa [Value.cells] using u8s_one more.l) (by omega) (by omega) (by decide) ?_; clear hst; intro x5 w hst; refine v_last hK hst ?_; clear hst hK K; (try clear w); (try refine nY ?_)
      (refine t_qt 6 rfl (by kernel_rfl) rfl rfl (by exact qt_assign evX) ?_) <;> (try refine nY ?_)
      refine v_done (by kernel_rfl) ?_; clear ops; intro w hst; refine hQ' [_, _, _, _, _, _, _] w ⟨_, _, _, _, _, _, _, rfl, ?_⟩; (exact fin_app' hpm16 hst (by rw [cF_snoc]; rfl) (by simp))
      intro w hst K hK; refine s_lit (vs := [dgV more]) hst inX inX rfl rfl (by simp [Value.cells, u8s_length, hmo]) rfl (by omega) (by omega) ?_; clear hst; intro x4 w hst; (try refine nY ?_); (try replace hst := nH hst); refine v_next hK hst (Snap.Le.refl _) (Suf.cons (Suf.refl _)) ?_; clear hst hK K; (try clear w); (try refine nY ?_)
      refine v_one 0 rfl (by kernel_rfl) ?_; intro w hst K hK; refine s_lit (vs := []) (cs := []) hst inX inX rfl rfl (by simp) rfl (by omega) (by omega) ?_; clear hst; intro x0 w hst; (try refine nY ?_); (try replace hst := nH hst); refine v_next hK hst (Snap.Le.refl _) (Suf.cons (Suf.refl _)) ?_; clear hst hK K; (try clear w); (try refine nY ?_)
      refine v_one 2 rfl (by kernel_rfl) ?_; intro w hst K hK; refine s_append_data hst evX evX SlIn.h hu inX inX inX (by omega) (by omega) (by decide) ?_; clear hst; intro x2 w c2 hc2 hst; obtain rfl := dgs_flat hc2 hp16; simp only [List.nil_append, Nat.zero_add] at hst; refine v_last hK hst ?_; clear hst hK K; (try clear w); (try refine nY ?_)
      refine v_one 5 rfl (by kernel_rfl) ?_; intro w hst K hK; refine s_append hst evX evX SlIn.h SlIn.h inX inX inX (by simpa [Value.cells] using u8s_one more.l) (by omega) (by omega) (by decide) ?_; clear hst; intro x5 w hst; refine v_last hK hst ?_; clear hst hK K; (try clear w); (try refine nY ?_)
      (refine t_qt 6 rfl (by kernel_rfl) rfl rfl (by exact qt_assign evX) ?_) <;> (try refine nY ?_)
      refine v_done (by kernel_rfl) ?_; clear ops; intro w hst; refine hQ' [_, _, _, _, _, _, _] w ⟨_, _, _, _, _, _, _, rfl, ?_⟩; (exact fin_app hpm16 hst (by rw [cF_snoc]; rfl) (by simp))
      have hv161 := hv16.oneCell
      replace hu := hu.mono hS2
      replace hl := hl.mono hS2
      replace hG := hG.mono hS2
      repeat' (((fail_if_success (go_big_may)); (go_step)))
      refine v_begin hst (by kernel_rfl) ?_; clear hst; intro ops; (try refine nY ?_)
      (refine t_qt 0 rfl (by kernel_rfl) rfl rfl (by exact qt_loadD evX BoxIn.h inX inX) ?_) <;> (try refine nY ?_)
      (refine t_qt 1 rfl (by kernel_rfl) rfl rfl (by exact qt_move evX) ?_) <;> (try refine nY ?_)
      (refine t_qt 2 rfl (by kernel_rfl) rfl rfl (by exact qt_move evX) ?_) <;> (try refine nY ?_)
      (refine t_qt 3 rfl (by kernel_rfl) rfl rfl (by exact qt_move evX) ?_) <;> (try refine nY ?_)
      (refine t_qt 4 rfl (by kernel_rfl) rfl rfl (by exact qt_move evX) ?_) <;> (try refine nY ?_)
      ((refine t_ex0 5 rfl (by kernel_rfl) rfl rfl (qt_index evX asX rfl inX inX omX omX) ?_; rintro v hp; (try simp only [Int.toNat_natCast, Int.toNat_natCast_add_one, Int.reduceToNat] at hp))) <;> (try refine nY ?_)
      (refine t_qt 6 rfl (by kernel_rfl) rfl rfl (by exact qt_ldp_flat evX asX inX inX rfl) ?_) <;> (try refine nY ?_)
      (refine t_qt 7 rfl (by kernel_rfl) rfl rfl (by exact qt_move evX) ?_) <;> (try refine nY ?_)
      (refine t_call 8 rfl (by kernel_rfl) rfl (fun S' M' w hS hM hst => cBad w hst (hG.mono hS) u (hu.mono hS) bad hb16 hne2) inX rfl ?_) <;> (try refine nY ?_)
      (refine t_qt 9 rfl (by kernel_rfl) rfl rfl (by exact qt_move evX) ?_) <;> (try refine nY ?_)
      (refine t_qt 10 rfl (by kernel_rfl) rfl rfl (by exact qt_loadD evX BoxIn.h inX inX) ?_) <;> (try refine nY ?_)
      (refine t_qt 11 rfl (by kernel_rfl) rfl rfl (by exact qt_move evX) ?_) <;> (try refine nY ?_)
      (refine t_qt 12 rfl (by kernel_rfl) rfl rfl (by exact qt_move evX) ?_) <;> (try refine nY ?_)
      (refine t_qt 13 rfl (by kernel_rfl) rfl rfl (by exact qt_move evX) ?_) <;> (try refine nY ?_)
      (refine t_qt 14 rfl (by kernel_rfl) rfl rfl (by exact qt_move evX) ?_) <;> (try refine nY ?_)
      ((refine t_ex0 15 rfl (by kernel_rfl) rfl rfl (qt_index evX asX rfl inX inX omX omX) ?_; rintro v hp; (try simp only [Int.toNat_natCast, Int.toNat_natCast_add_one, Int.reduceToNat] at hp))) <;> (try refine nY ?_)
      (refine t_qt 16 rfl (by kernel_rfl) rfl rfl (by exact qt_ldp_flat evX asX inX inX rfl) ?_) <;> (try refine nY ?_)
      (refine t_qt 17 rfl (by kernel_rfl) rfl rfl (by exact qt_move evX) ?_) <;> (try refine nY ?_)
      ((refine t_call 18 rfl (by kernel_rfl) rfl (fun S' M' w hS hM hst => cLen w hst (hG.mono hS) _ (pf ++ [more]) (by simp; omega) (hv16.mono hS) (by simp)) inX rfl ?_)) <;> (try refine nY ?_)
      (refine t_qt 19 rfl (by kernel_rfl) rfl rfl (by exact qt_pick_f rfl evX) ?_) <;> (try refine nY ?_)
      refine v_done (by kernel_rfl) ?_; clear ops; intro w hst
      repeat' (((fail_if_success (go_big_may)); (go_step)))
      by_cases hp0 : pf.length = 0
      · have hz : ((pf.length : Int) == 0) = true := beq_iff_eq.2 (by omega)
        refine v_begin hst (by kernel_rfl) ?_; clear hst; intro ops; (try refine nY ?_)
        (refine t_qt 0 rfl (by kernel_rfl) rfl rfl (by exact qt_move evX) ?_) <;> (try refine nY ?_)
        (refine t_qt 1 rfl (by kernel_rfl) rfl rfl (by exact qt_move evX) ?_) <;> (try refine nY ?_)
        (refine t_qt 2 rfl (by kernel_rfl) rfl rfl (by exact qt_move evX) ?_) <;> (try refine nY ?_)
        (refine t_qt 3 rfl (by kernel_rfl) rfl rfl (by exact qt_len evX asX inX) ?_) <;> (try refine nY ?_)
        ((refine t_qt 4 rfl (by kernel_rfl) rfl rfl (qt_eql_b rfl rfl hz) ?_)) <;> (try refine nY ?_)
        (refine t_qt 5 rfl (by kernel_rfl) rfl rfl (by exact qt_move evX) ?_) <;> (try refine nY ?_)
        (refine t_no 6 rfl (by kernel_rfl) rfl rfl ?_) <;> (try refine nY ?_)
        (refine t_no 7 rfl (by kernel_rfl) rfl rfl ?_) <;> (try refine nY ?_)
        (refine t_no 8 rfl (by kernel_rfl) rfl rfl ?_) <;> (try refine nY ?_)
        (refine t_no 9 rfl (by kernel_rfl) rfl rfl ?_) <;> (try refine nY ?_)
        (refine t_no 10 rfl (by kernel_rfl) rfl rfl ?_) <;> (try refine nY ?_)
        (refine t_no 11 rfl (by kernel_rfl) rfl rfl ?_) <;> (try refine nY ?_)
        (refine t_no 12 rfl (by kernel_rfl) rfl rfl ?_) <;> (try refine nY ?_)
        (refine t_no 13 rfl (by kernel_rfl) rfl rfl ?_) <;> (try refine nY ?_)
        (refine t_no 14 rfl (by kernel_rfl) rfl rfl ?_) <;> (try refine nY ?_)
        (refine t_no 15 rfl (by kernel_rfl) rfl rfl ?_) <;> (try refine nY ?_)
        (refine t_no 16 rfl (by kernel_rfl) rfl rfl ?_) <;> (try refine nY ?_)
        (refine t_qt 17 rfl (by kernel_rfl) rfl rfl (by exact qt_pick_t rfl evX) ?_) <;> (try refine nY ?_)
        (refine t_qt 18 rfl (by kernel_rfl) rfl rfl (by exact qt_pick_t rfl evX) ?_) <;> (try refine nY ?_)
        (refine t_qt 19 rfl (by kernel_rfl) rfl rfl (by exact qt_assign evX) ?_) <;> (try refine nY ?_)
        refine v_done (by kernel_rfl) ?_; clear ops; intro w hst
        repeat' (((fail_if_success (go_big_may)); (go_step)))
        go_ret
        exact ⟨_, rfl, rfl, St.weaken (hS1.trans hS2) hst.drop.drop.drop⟩
      · have hz : ((pf.length : Int) == 0) = false := beq_eq_false_iff_ne.2 (by omega)
        have h1p : 1 ≤ pf.length := by omega
        refine v_begin hst (by kernel_rfl) ?_; clear hst; intro ops; (try refine nY ?_)
        (refine t_qt 0 rfl (by kernel_rfl) rfl rfl (by exact qt_move evX) ?_) <;> (try refine nY ?_)
        (refine t_qt 1 rfl (by kernel_rfl) rfl rfl (by exact qt_move evX) ?_) <;> (try refine nY ?_)
        (refine t_qt 2 rfl (by kernel_rfl) rfl rfl (by exact qt_move evX) ?_) <;> (try refine nY ?_)
        (refine t_qt 3 rfl (by kernel_rfl) rfl rfl (by exact qt_len evX asX inX) ?_) <;> (try refine nY ?_)
        ((refine t_qt 4 rfl (by kernel_rfl) rfl rfl (qt_eql_b rfl rfl hz) ?_)) <;> (try refine nY ?_)
        (refine t_qt 5 rfl (by kernel_rfl) rfl rfl (by exact qt_move evX) ?_) <;> (try refine nY ?_)
        (refine t_qt 6 rfl (by kernel_rfl) rfl rfl (by exact qt_loadD evX BoxIn.h inX inX) ?_) <;> (try refine nY ?_)
        (refine t_qt 7 rfl (by kernel_rfl) rfl rfl (by exact qt_move evX) ?_) <;> (try refine nY ?_)
        (refine t_qt 8 rfl (by kernel_rfl) rfl rfl (by exact qt_move evX) ?_) <;> (try refine nY ?_)
        (refine t_qt 9 rfl (by kernel_rfl) rfl rfl (by exact qt_move evX) ?_) <;> (try refine nY ?_)
        (refine t_qt 10 rfl (by kernel_rfl) rfl rfl (by exact qt_move evX) ?_) <;> (try refine nY ?_)
        ((refine t_ex0 11 rfl (by kernel_rfl) rfl rfl (qt_index evX asX rfl inX inX omX omX) ?_; rintro v hp; (try simp only [Int.toNat_natCast, Int.toNat_natCast_add_one, Int.reduceToNat] at hp))) <;> (try refine nY ?_)
        (refine t_qt 12 rfl (by kernel_rfl) rfl rfl (by exact qt_ldp_flat evX asX inX inX rfl) ?_) <;> (try refine nY ?_)
        (refine t_qt 13 rfl (by kernel_rfl) rfl rfl (by exact qt_move evX) ?_) <;> (try refine nY ?_)
        (((refine t_ex0 14 rfl (by kernel_rfl) rfl rfl (qt_slice (a := 1) (b := pf.length) evX hu inX inX (.inr ⟨.i64, by simp [evF, nth]⟩) (.inl ⟨rfl, rfl⟩) (.inl rfl) (by omega) (by omega) ) ?_; rintro  v14 hv14))) <;> (try refine nY ?_)
        ((refine t_call 15 rfl (by kernel_rfl) rfl (fun S' M' w hS hM hst => cLen w hst (hG.mono hS) v14 ((pf.drop 1).take (pf.length - 1)) (by simp; omega) (hv14.mono hS) (by simp; omega)) inX rfl ?_)) <;> (try refine nY ?_)
        (refine t_qt 16 rfl (by kernel_rfl) rfl rfl (by exact qt_not rfl) ?_) <;> (try refine nY ?_)
        (refine t_qt 17 rfl (by kernel_rfl) rfl rfl (by exact qt_pick_f rfl evX) ?_) <;> (try refine nY ?_)
        (refine t_qt 18 rfl (by kernel_rfl) rfl rfl (by exact qt_pick_t rfl evX) ?_) <;> (try refine nY ?_)
        (refine t_qt 19 rfl (by kernel_rfl) rfl rfl (by exact qt_assign evX) ?_) <;> (try refine nY ?_)
        refine v_done (by kernel_rfl) ?_; clear ops; intro w hst
        repeat' (((fail_if_success (go_big_may)); (go_step)))
        go_ret
        exact ⟨_, rfl, rfl, St.weaken (hS1.trans hS2) hst.drop.drop.drop⟩
end Go.Proofs.YtcobalpbencboaaDoor

/- The statement MerkleTampered. -/
namespace Go.Proofs.YtcobalpbencboaaDoor
set_option linter.unusedSimpArgs false
set_option linter.unusedVariables false
open Go.RowKit Go.Sl Go.ChangeShapes Go.WideShapes Go.ChangeAt

set_option maxRecDepth 20000 in
theorem mtamp_post (H : Type) (enc : TypeId × Value → H) (W : World) (base : Nat) (args : Array Value) (ds gs : List (DataW H)) (before : List MemPlace)
    (hval : ∀ (j : Nat) t v, Tryd.f8.params[j]? = some t → args[j]? = some v → Value.okWide Tryd.prog W .any base t v)
    (hW : DataW.Whole enc Tryd.prog Tryd.f8.params.toList Rows.merkleTamperedSpec.vars false W args.toList ds gs before) (hk : Rows.uptoSmall H (ds ++ gs) = true) (hL : laidMetH Tryd.prog Rows.merkleTamperedUptoRow.laid W) :
    Calls Tryd.prog 8 args W fun e W' => ∃ v, e = .returned v ∧ Rows.merkleTamperedSpec.post enc Tryd.prog Tryd.f8 false true false false W args v W' := by
  have hW' := hW
  obtain ⟨p, q, hA0, hV, rfl, hfz, hnd⟩ := hW
  have hA : DataW.TrodAll enc Tryd.prog W 0 (fun _ => true) true Tryd.f8.params.toList args.toList ds p := hA0
  have hk := small_all hk
  rw [Tryd.params8] at hA hval
  obtain ⟨v0, vs0, d0, ds0, p0, q0, hargs, rfl, rfl, h0, r0⟩ := trodAll_cons hA
  obtain ⟨v1, vs1, d1, ds1, p1, q1, rfl, rfl, rfl, h1, r1⟩ := trodAll_cons r0
  obtain ⟨v2, vs2, d2, ds2, p2, q2, rfl, rfl, rfl, h2, r2⟩ := trodAll_cons r1
  obtain ⟨v3, vs3, d3, ds3, p3, q3, rfl, rfl, rfl, h3, r3⟩ := trodAll_cons r2
  obtain ⟨rfl, rfl, rfl⟩ := trodAll_nil r3
  obtain rfl : args = #[v0, v1, v2, v3] := by cases args; simp_all
  obtain ⟨rfl, rfl⟩ := trodVars_none hV
  simp only [List.append_nil, Rows.uptoBulkAll] at hk
  obtain ⟨l0, hl0, hm0⟩ := open_ds (hval 0 22 v0 rfl rfl) h0 (by omega)
  obtain ⟨n1, rfl, hn1⟩ := open_u8 (hval 1 5 v1 rfl rfl) h1
  obtain ⟨n2, rfl, hn2⟩ := open_u8 (hval 2 5 v2 rfl rfl) h2
  obtain ⟨d3, rfl, hd3⟩ := open_dg (hval 3 28 v3 rfl rfl) h3
  refine Calls.mono (tampered_c W (St.start W) (glob_of hL) v0 l0 hl0 hm0 n1 hn1 n2 hn2 d3 hd3) fun e W' ⟨v, he, hv, hst⟩ => ?_
  subst hv
  exact ⟨_, he, law_post (tb := 4) rfl hW' (by kernel_rfl) (by rw [Tryd.params8]; intro t ht'; have e : t = 22 ∨ t = 5 ∨ t = 28 := (by simpa using ht'); rcases e with rfl | rfl | rfl <;> exact ⟨by kernel_rfl, of_decide_eq_true (by kernel_rfl)⟩) (by kernel_rfl) (by kernel_rfl) rfl rfl rfl hst.below⟩

abbrev mtamp_args : Array Value := #[.slice none 0 0, .int .u8 0, .int .u8 0, .agg #[.int .u8 0, .int .u8 0, .int .u8 0, .int .u8 0, .int .u8 0, .int .u8 0, .int .u8 0, .int .u8 0, .int .u8 0, .int .u8 0, .int .u8 0, .int .u8 0, .int .u8 0, .int .u8 0, .int .u8 0, .int .u8 0]]
theorem mtamp_met (os : Os) : laidMet Tryd.prog Rows.merkleTamperedUptoRow.laid ((laidWorld os #[]).forCall (fun _ _ => 0) ⟨#[], mtamp_args, []⟩).memory :=
  laidMet_of_run' 8 (by kernel_rfl) (by kernel_rfl)
theorem mtamp_reads (os : Os) {H : Type} (enc : TypeId × Value → H) : ∃ places, DataW.whole enc Tryd.prog ((laidWorld os #[]).forCall (fun _ _ => 0) ⟨#[], mtamp_args, []⟩).memory Tryd.f8.params.toList Rows.merkleTamperedSpec.vars false mtamp_args.toList 8 = some ([.nil, .lit (.int .u8 0), .lit (.int .u8 0), .agg [.lit (.int .u8 0), .lit (.int .u8 0), .lit (.int .u8 0), .lit (.int .u8 0), .lit (.int .u8 0), .lit (.int .u8 0), .lit (.int .u8 0), .lit (.int .u8 0), .lit (.int .u8 0), .lit (.int .u8 0), .lit (.int .u8 0), .lit (.int .u8 0), .lit (.int .u8 0), .lit (.int .u8 0), .lit (.int .u8 0), .lit (.int .u8 0)]], [], places) :=
  ⟨[], by kernel_rfl⟩

set_option maxRecDepth 100000 in
theorem mtamp_lifted (os : Os) (started : os.Started) (H : Type) (enc : TypeId × Value → H) (F : Stop.Interp) :
    ReturnsInHanded {} Tryd.checked os 8 .any ((Rows.OpenSpec.upto Rows.merkleTamperedSpec).preRow enc Tryd.prog Tryd.f8 Rows.merkleTamperedUptoRow.domain false Rows.merkleTamperedUptoRow.laid) (((Rows.OpenSpec.upto Rows.merkleTamperedSpec).at F).post enc Tryd.prog Tryd.f8 false true false false) := by
  obtain ⟨places, hx⟩ := mtamp_reads os enc
  refine returnsInHanded_of_row (C := Tryd.checked) (s := Rows.OpenSpec.upto Rows.merkleTamperedSpec) own started (by kernel_rfl) Tryd.func8
    (witness_row_at (enc := enc) (C := Tryd.checked) false (laidWorld os #[]) mtamp_args rfl (by kernel_rfl) (by kernel_rfl) (by kernel_rfl)
      (OpenSpec.preRow_of_cond 8 hx (by kernel_rfl) (fun k hk => by cases hk; kernel_rfl) (by kernel_rfl) (mtamp_met os))) ?_
  intro W base args ds gs before hval hW _ hc _ hL _ _
  exact mtamp_post H enc W base args ds gs before hval hW (hc _ rfl) hL

theorem mtamp_said : Rows.MerkleTamperedUptoSaid :=
  OpenClaim.holds_of_cond 8 Tryd.f8 rfl rfl rfl rfl rfl rfl rfl ⟨rfl, rfl, rfl, rfl, rfl⟩ rfl rfl rfl rfl rfl (by kernel_rfl) Tryd.func8 (by kernel_rfl)
    (of_decide_eq_true (by kernel_rfl)) (by unfold Func.isWrapper; first | (rw [if_pos (by decide +kernel)]; kernel_rfl) | (rw [if_neg (by decide +kernel)]; exact ⟨rfl, rfl⟩))
    (fun os started H enc _ F => by rw [OpenClaim.pre_eq_preRow]; exact mtamp_lifted os started H enc F)

theorem mtamp_plain (f : FuncId) (fn : Func) (hf : Tryd.pinned.checked.prog.funcNamed "bootchain/bootchainlaw03.MerkleTampered" = some f) (hfn : Tryd.pinned.checked.prog.funcs[f]? = some fn) :
    false = Tryd.pinned.checked.prog.looks [] ∧ ∀ (j : Nat) t, fn.params[j]? = some t → Tryd.pinned.checked.prog.wantsStandIn t = false := by
  obtain rfl : f = 8 := Option.some.inj ((show Tryd.prog.funcNamed "bootchain/bootchainlaw03.MerkleTampered" = some 8 by kernel_rfl).symm.trans hf) |>.symm
  obtain rfl : fn = Tryd.f8 := (Option.some.inj (Tryd.func8.symm.trans hfn)).symm
  refine ⟨by kernel_rfl, fun j t ht => ?_⟩
  rw [Tryd.params8] at ht
  have e : t = 22 ∨ t = 5 ∨ t = 28 := by simpa using Array.mem_of_getElem? ht
  rcases e with rfl | rfl | rfl
  · exact (show Tryd.prog.wantsStandIn 22 = false by kernel_rfl)
  · exact (show Tryd.prog.wantsStandIn 5 = false by kernel_rfl)
  · exact (show Tryd.prog.wantsStandIn 28 = false by kernel_rfl)

theorem mtamp_proved : Rows.MerkleTamperedUptoCardSaid :=
  Claim7.holds_tied_plain_at .later [] _ _ _ _ mtamp_said (fun _ h => by cases h) (by kernel_rfl) (fun _ h => by cases h) merkleTamperedUpto_row_tie rfl ⟨rfl, rfl⟩ (by kernel_rfl) rfl mtamp_plain (by kernel_rfl)
end Go.Proofs.YtcobalpbencboaaDoor
