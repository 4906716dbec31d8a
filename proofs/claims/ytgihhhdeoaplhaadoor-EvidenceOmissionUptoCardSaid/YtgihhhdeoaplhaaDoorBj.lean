/- The reference's evidence walked. -/
import Derived.Test.YtgihhhdeoaplhaaDoorBb
import Derived.Test.YtgihhhdeoaplhaaDoorBg
import Derived.Test.YtgihhhdeoaplhaaDoorBi
import Derived.Test.YtgihhhdeoaplhaaDoorBf

/- Package evidence: the reference's Leaves and Registers, walked. -/
--@u32
--@hgp
--@flat
--@dg
--@ex0
namespace Go.Proofs.YtgihhhdeoaplhaaDoor
set_option linter.unusedSimpArgs false
set_option linter.unusedVariables false
open Go.RowKit Go.Sl

set_option maxRecDepth 8000 in
set_option maxHeartbeats 1000000 in
theorem refLeaves_c {S M} (w : World) (hst : St S M w) (vl : Value) (xs : List Int) (hl : RSl S vl xs) (hm : xs.length ≤ 1000) :
    Rets Tryd.prog 25 [vl] w fun u w' => St S (.sl u 23 16 (leavesP leafP xs).length (cF dgC (leavesP leafP xs)) :: M) w' := by
  unfold Rets
  have hl1 := hl.oneCell
  go_enter Tryd.func25, Tryd.ntmps25
  repeat' (((fail_if_success (go_big_may)); (go_step)))
  have hst := hst.nil 23 16
  go_loopw [3, 4] (fun u v wr => ∃ (n : Nat) (c : List Dg), n ≤ xs.length ∧ v = .int .i64 n ∧ Hid (c = (List.range n).map fun (j : Nat) => leafP (j : Int) (xs.getD j 0)) ∧ (n ≤ c.length ∧ c.length ≤ n) ∧ u.oneCell' = true ∧ St S (.sl u 23 16 c.length (cF dgC c) :: M) wr) (fun _ v _ => xs.length - (intOf v).toNat)
  case atStart => exact ⟨0, [], Nat.zero_le _, rfl, Lib.hid rfl, ⟨Nat.le_refl _, Nat.le_refl _⟩, rfl, hst⟩
  case round =>
    clear hst
    obtain ⟨n, c, hn, rfl, hc, hcl2, hone, hst⟩ := hrel
    by_cases hlt : n < xs.length
    · have hi64 := rsl_i64 hl xs[n] (List.getElem_mem hlt)
      have hn64 : I64 (n : Int) := by unfold I64; omega
      have hsu := Lib.hid (leaves_succ leafP hlt)
      repeat' (first | (((with_reducible refine Sl.k_call ?_; ((refine s_call (rleaf_c _ hst (n : Int) xs[n] hn64 hi64) inX rfl ?_; clear hst; rintro v w ⟨rfl, hst⟩)))) <;> (try refine nY ?_) <;> (try replace hst := nH hst)) | ((fail_if_success (go_big_may)); (go_step)) | ((first | (with_reducible refine Sl.k_load ?_; ((refine s_ex hst (qt_ldp_int evX asX inX) ?_; rintro v ⟨rfl, hI⟩))) | (with_reducible refine Sl.k_index ?_; (((refine s_ex hst (qt_index evX asX rfl inX inX omX omX) ?_); rintro v hp; (try simp only [Int.toNat_natCast, Int.toNat_natCast_add_one, Int.reduceToNat] at hp)))) | (with_reducible refine Sl.k_call ?_; (refine s_qt hst (by exact qt_len evX asX inX) ?_))) <;> (try refine nY ?_)) | (with_reducible refine Sl.gate rfl ?_; (go_step)))
      refine s_lit (vs := [dgV (leafP (n : Int) xs[n])]) hst inX inX rfl rfl (by simp [Value.cells, u8s_length, leafP_len]) rfl (by omega) (by omega) ?_
      clear hst; intro u w hst
      (try refine nY ?_)
      (try replace hst := nH hst)
      repeat' (fail)
      refine s_append (j := 0) hst evX evX SlIn.h rfl inX inX inX (by simpa [Value.cells] using u8s_one (leafP (n : Int) xs[n]).l) (by omega) (by omega) (by decide) ?_
      clear hst; intro v' w hst
      (try refine nY ?_)
      (try replace hst := nH hst)
      replace hst := hst.drop
      repeat' (first | ((fail_if_success (go_big_may)); (go_step)) | (with_reducible refine Sl.gate rfl ?_; (go_step)))
      have hone' := sl_one hst
      go_roundw
      case rel => exact ⟨n + 1, c ++ [leafP (n : Int) xs[n]], by omega, by go_num, Lib.hid (by rw [hsu.out, hc.out]), by simp; omega, hone', by rw [List.length_append, cF_snoc]; exact hst⟩
      case measure => simp [intOf]; omega
    · obtain rfl : n = xs.length := by omega
      have hcE : c = leavesP leafP xs := hc.out
      repeat' (first | ((fail_if_success (go_big_may)); (go_step)) | (((with_reducible refine Sl.k_call ?_; (refine s_qt hst (by exact qt_len evX asX inX) ?_))) <;> (try refine nY ?_)) | (with_reducible refine Sl.gate rfl ?_; (go_step)))
      go_ret
      rw [← hcE]
      exact ⟨_, rfl, hst⟩
theorem refLeaves_f {S M} (w : World) (hst : St S M w) (vl : Value) (xs : List Int) (hl : RSl S vl xs) (hm : xs.length ≤ 1000) :
    Rets Tryd.prog 25 [vl] w fun u w' => Fz Dg S M (leavesP leafP xs) u w' :=
  (refLeaves_c w hst vl xs hl hm).mono fun u w' h => by
    have h1 := sl_one h
    obtain ⟨S2, hS2, hst, hu⟩ := St.freeze (α := Dg) h (rl_digs (leavesP_16 leafP_len _)) rfl
    exact ⟨S2, hS2, hu, h1, hst⟩

set_option maxRecDepth 8000 in
set_option maxHeartbeats 1000000 in
theorem refRegs_c {S M} (w : World) (hst : St S M w) (cs : List Value) (ev : Evd) (hR : Rep.R S cs ev) (hm : ev.1.l.length = 16) (hh : ∀ h ∈ ev.2.1, HdOk h) (hn : ev.2.1.length ≤ 1048576) :
    Rets Tryd.prog 18 [.agg cs.toArray] w fun v w' => v = rgV (regE ev.1 ev.2.1) ∧ St S M w' := by
  unfold Rets
  go_enter Tryd.func18, Tryd.ntmps18
  repeat' ((fail_if_success (with_reducible show Code.wp _ (Code.region 1 _ _) _ _ _)); first | ((fail_if_success (go_big_may)); (go_step)) | ((((first | (refine s_box hst evX rfl ?_; clear hst; intro bx w hst) | (refine s_alloc hst inX ?_; clear hst; intro bk w hst)))) <;> (try refine nY ?_) <;> (try replace hst := nH hst)))
  have hst0 := hst.perm (List.Perm.swap _ _ _)
  clear hst
  obtain ⟨S1, hS1, hst, hpe⟩ := pt_box (α := Evd) hst0 hR (Rep.len hR)
  clear hst0
  generalize Value.pointer (some ⟨bx, 0, none⟩) = pE at *
  haveI : LenIs ev.1.l 16 := ⟨hm⟩
  repeat' (first | (((with_reducible refine Sl.k_call ?_; ((refine s_call (rstart_c _ hst ev.1 hm) inX rfl ?_; clear hst; rintro v w ⟨rfl, hst⟩)))) <;> (try refine nY ?_) <;> (try replace hst := nH hst)) | ((fail_if_success (go_big_may)); (go_step)) | ((first | (with_reducible refine Sl.k_load ?_; (refine s_qt hst (by exact qt_ldp_flat evX asX inX inX rfl) ?_)) | (with_reducible refine Sl.k_field ?_; (((refine s_ex hst (qt_fieldp evX asX inX inX rfl) ?_); rintro v hp; (try simp only [Int.toNat_natCast, Int.toNat_natCast_add_one, Int.reduceToNat] at hp))))) <;> (try refine nY ?_)) | (((((refine s_alloc hst inX ?_; clear hst; intro bk w hst)))) <;> (try refine nY ?_) <;> (try replace hst := nH hst)))
  refine s_stW0 hst rfl BoxIn.h inX (x0 := startM ev.1) (cs := rgC (startM ev.1)) evX (r_rg (startM_ok ev.1)) rfl ?_
  clear hst; intro w hst
  (try refine nY ?_)
  (try replace hst := nH hst)
  rename Nat => b3
  repeat' (((fail_if_success (go_big_may)); (go_step)))
  have hfs : ∀ k, RgOk (regE ev.1 (ev.2.1.take k)) := fun k => regE_ok _ _
  go_loopw [4] (fun v wr => ∃ k : Nat, k ≤ ev.2.1.length ∧ v = .int .i64 k ∧ St S1 (.box b3 (rgC (regE ev.1 (ev.2.1.take k))) 40 :: .box bk (rgC rg0) 40 :: M) wr) (fun v _ => ev.2.1.length - (intOf v).toNat)
  case atStart => exact ⟨0, Nat.zero_le _, rfl, hst⟩
  case round =>
    clear hst
    obtain ⟨k, hk, rfl, hst⟩ := hrel
    by_cases hlt : k < ev.2.1.length
    · have hho := hh _ (List.getElem_mem hlt)
      have hfk := hfs k
      have hfk1 := hfs (k + 1)
      have hsu := Lib.hid (regE_succ ev.1 ev.2.1 hlt)
      rw [hsu.out] at hfk1
      have okX := extM_ok (regE ev.1 (ev.2.1.take k)) ev.2.1[k]
      have cX := fun {S : Snap} {M : List Chunk} (w : World) (hst : St S M w) => rext_c w hst (regE ev.1 (ev.2.1.take k)) hfk ev.2.1[k] hho
      repeat' ((fail_if_success (with_reducible show Code.wp _ (Code.region 5 _ _) _ _ _)); first | ((fail_if_success (go_big_may)); (go_step)) | ((first | (with_reducible refine Sl.k_load ?_; ((refine s_ex hst (qt_ldp_list evX asX inX) ?_; rintro v ⟨hvl, hv1⟩))) | (with_reducible refine Sl.k_field ?_; (((refine s_ex hst (qt_fieldp evX asX inX inX rfl) ?_); rintro v hp; (try simp only [Int.toNat_natCast, Int.toNat_natCast_add_one, Int.reduceToNat] at hp)))) | (with_reducible refine Sl.k_call ?_; (refine s_qt hst (by exact qt_len evX asX inX) ?_))) <;> (try refine nY ?_)) | (with_reducible refine Sl.gate rfl ?_; (go_step)))
      generalize extM (regE ev.1 (ev.2.1.take k)) ev.2.1[k] = X at *
      generalize regE ev.1 (ev.2.1.take k) = R at *
      refine v_begin hst (by kernel_rfl) ?_; clear hst; intro ops; (try refine nY ?_)
      (refine t_qt 0 rfl (by kernel_rfl) rfl rfl (qt_loadF (x0 := R) evX BoxIn.h (r_rg hfk) inX) ?_) <;> (try refine nY ?_)
      ((refine t_ex0 1 rfl (by kernel_rfl) rfl rfl (qt_fieldp evX hpe inX inX rfl ) ?_; rintro  v1 hp1)) <;> (try refine nY ?_)
      ((refine t_ex0 2 rfl (by kernel_rfl) rfl rfl (qt_ldp_list evX hp1 inX ) ?_; rintro  v2 ⟨hv2, hv21⟩)) <;> (try refine nY ?_)
      (refine t_qt 3 rfl (by kernel_rfl) rfl rfl (by exact qt_move evX) ?_) <;> (try refine nY ?_)
      ((refine t_ex0 4 rfl (by kernel_rfl) rfl rfl (qt_index evX hv2 rfl inX inX omX omX ) ?_; rintro  v4 hp4; simp only [Int.toNat_natCast] at hp4)) <;> (try refine nY ?_)
      (refine t_qt 5 rfl (by kernel_rfl) rfl rfl (qt_ldp_flat evX hp4 inX inX rfl) ?_) <;> (try refine nY ?_)
      (refine t_call 6 rfl (by kernel_rfl) rfl (fun S' M' w hS hM hst => cX w hst) inX rfl ?_) <;> (try refine nY ?_)
      refine v_one 7 rfl (by kernel_rfl) ?_; intro w hst K hK; refine s_stW0 hst rfl BoxIn.h inX (x0 := X) (cs := rgC X) evX (r_rg hfk1) (Rep.len (S := S1) (r_rg hfk)) ?_; clear hst; intro w hst; (try refine nY ?_); (try replace hst := nH hst); refine v_last hK hst ?_; clear hst hK K; (try clear w); (try refine nY ?_)
      refine v_done (by kernel_rfl) ?_; clear ops; intro w hst
      repeat' (first | ((fail_if_success (go_big_may)); (go_step)) | (with_reducible refine Sl.gate rfl ?_; (go_step)))
      go_roundw
      case rel => exact ⟨k + 1, by omega, by go_num, by rw [hsu.out]; exact hst⟩
      case measure => simp [intOf]; omega
    · obtain rfl : k = ev.2.1.length := by omega
      rw [List.take_length] at hst
      have hfa := regE_ok ev.1 ev.2.1
      have hrA : Rep.R S1 (rgC (regE ev.1 ev.2.1)) (regE ev.1 ev.2.1) := r_rg hfa
      repeat' (first | (((with_reducible (refine Sl.k_load ?_; with_unfolding_all refine s_qt hst (qt_loadF (x0 := regE ev.1 ev.2.1) rfl BoxIn.h hrA inX) ?_))) <;> (try refine nY ?_)) | ((fail_if_success (go_big_may)); (go_step)) | ((first | (with_reducible refine Sl.k_load ?_; ((refine s_ex hst (qt_ldp_list evX asX inX) ?_; rintro v ⟨hvl, hv1⟩))) | (with_reducible refine Sl.k_field ?_; (((refine s_ex hst (qt_fieldp evX asX inX inX rfl) ?_); rintro v hp; (try simp only [Int.toNat_natCast, Int.toNat_natCast_add_one, Int.reduceToNat] at hp)))) | (with_reducible refine Sl.k_call ?_; (refine s_qt hst (by exact qt_len evX asX inX) ?_))) <;> (try refine nY ?_)) | (with_reducible refine Sl.gate rfl ?_; (go_step)))
      refine s_stW0 hst rfl BoxIn.h inX (x0 := regE ev.1 ev.2.1) (cs := rgC (regE ev.1 ev.2.1)) evX hrA rfl ?_
      clear hst; intro w hst
      (try refine nY ?_)
      (try replace hst := nH hst)
      repeat' (((fail_if_success (go_big_may)); (go_step)))
      exact ret_F rfl hst rfl BoxIn.h inX hrA ⟨_, rfl, rfl, St.weaken hS1 hst.drop.drop⟩
end Go.Proofs.YtgihhhdeoaplhaaDoor

/- Package evidence: the reference's code and history, walked. -/
--@u32
--@hgp
--@flat
--@dg
--@ex0
namespace Go.Proofs.YtgihhhdeoaplhaaDoor
set_option linter.unusedSimpArgs false
set_option linter.unusedVariables false
open Go.RowKit Go.Sl

def codeZ (h : Hd) : Hd := (h.1, dg0, h.2.2)
theorem codeZ_ok {h : Hd} (k : HdOk h) : HdOk (codeZ h) := ⟨k.a, rfl, k.c, k.d, k.e, k.f⟩
theorem codeZ_eq {h g : Hd} : codeZ h = codeZ g ↔ codeH h = codeH g := by
  simp only [codeZ, codeH, Prod.mk.injEq, true_and]

set_option maxRecDepth 8000 in
set_option maxHeartbeats 1000000 in
theorem code_c {S M} (w : World) (hst : St S M w) (h : Hd) (hh : HdOk h) :
    Rets Tryd.prog 48 [hdV h] w fun v w' => v = hdV (codeZ h) ∧ St S M w' := by
  unfold Rets
  go_enter Tryd.func48, Tryd.ntmps48
  repeat' (first | ((fail_if_success (go_big_may)); (go_step)) | (((with_reducible refine Sl.k_field ?_; (refine s_qt hst (qt_field rfl inX) ?_))) <;> (try refine nY ?_)) | (with_reducible refine Sl.gate rfl ?_; (go_step)) | ((((first | (refine s_box hst evX rfl ?_; clear hst; intro bx w hst) | (refine s_alloc hst inX ?_; clear hst; intro bk w hst)))) <;> (try refine nY ?_) <;> (try replace hst := nH hst)))
  refine s_stFo 1 (x0 := h) hst flatHd rfl BoxIn.h inX rfl (r_hd hh) inX evX (r_dgx (d := dg0) rfl) (fun h => by cases h) ?_
  clear hst; intro w hR hst
  (try refine nY ?_)
  (try replace hst := nH hst)
  repeat' (first | (((with_reducible (refine Sl.k_load ?_; with_unfolding_all refine s_qt hst (qt_loadF rfl BoxIn.h hR inX) ?_))) <;> (try refine nY ?_)) | ((fail_if_success (go_big_may)); (go_step)))
  refine s_stW0 hst rfl BoxIn.h inX evX hR rfl ?_
  clear hst; intro w hst
  (try refine nY ?_)
  (try replace hst := nH hst)
  repeat' (((fail_if_success (go_big_may)); (go_step)))
  exact ret_F rfl hst rfl BoxIn.h inX hR ⟨_, rfl, rfl, hst.drop.drop⟩

/-- The code registers before each head, and behind the last. -/
def histM (m : Dg) (hs : List Hd) : List Dg := (List.range (hs.length + 1)).map (regK m hs)
theorem histM_len (m : Dg) (hs : List Hd) : (histM m hs).length = hs.length + 1 := by simp [histM]
theorem histM_get (m : Dg) (hs : List Hd) {k : Nat} (h : k < (histM m hs).length) : (histM m hs)[k] = regK m hs k := by simp [histM]
theorem histM_16 (m : Dg) (hs : List Hd) : ∀ d ∈ histM m hs, d.l.length = 16 := fun d hd => by
  obtain ⟨k, _, rfl⟩ := List.mem_map.1 hd
  exact (regE_ok m _).a
theorem hist_snoc (m : Dg) (hs : List Hd) (k : Nat) : ((List.range (k + 1)).map (regK m hs)) = ((List.range k).map (regK m hs)) ++ [regK m hs k] := by rw [List.range_succ, List.map_append]; rfl

theorem tk_rg {r : Rg} (k : RgOk r) : ((rgC r).drop 0).take 16 = u8s r.1.l := by
  have h : (u8s r.1.l).length = 16 := by rw [u8s_length]; exact k.a
  rw [rgC, List.drop_zero, List.take_append_of_le_length (by omega), List.take_of_length_le (by omega)]
theorem regK_len (m : Dg) (hs : List Hd) (k : Nat) : (regK m hs k).l.length = 16 := (regE_ok m _).a
theorem hist_len (m : Dg) (hs : List Hd) (k : Nat) : ((List.range k).map (regK m hs)).length = k := by simp
theorem len_rg {r : Rg} (k : RgOk r) : (u8s r.1.l).length = 16 := by rw [u8s_length]; exact k.a

set_option maxRecDepth 8000 in
set_option maxHeartbeats 1000000 in
theorem history_c {S M} (w : World) (hst : St S M w) (m : Dg) (hm : m.l.length = 16) (vl : Value) (hs : List Hd) (hl : RSl S vl hs) (hh : ∀ h ∈ hs, HdOk h) (hn : hs.length ≤ 1048576) :
    Rets Tryd.prog 47 [dgV m, vl] w fun u w' => Fz Dg S M (histM m hs) u w' := by
  unfold Rets
  haveI : LenIs m.l 16 := ⟨hm⟩
  have hl1 := hl.oneCell
  go_enter Tryd.func47, Tryd.ntmps47
  repeat' (first | (((with_reducible refine Sl.k_call ?_; ((refine s_call (rstart_c _ hst m hm) inX rfl ?_; clear hst; rintro v w ⟨rfl, hst⟩)))) <;> (try refine nY ?_) <;> (try replace hst := nH hst)) | ((fail_if_success (go_big_may)); (go_step)) | (((with_reducible refine Sl.k_load ?_; (refine s_qt hst (by exact qt_loadD evX BoxIn.h inX inX) ?_))) <;> (try refine nY ?_)) | ((((first | (refine s_box hst evX rfl ?_; clear hst; intro bx w hst) | (refine s_alloc hst inX ?_; clear hst; intro bk w hst)))) <;> (try refine nY ?_) <;> (try replace hst := nH hst)))
  refine s_stW0 hst rfl BoxIn.h inX (x0 := startM m) (cs := rgC (startM m)) evX (r_rg (startM_ok m)) rfl ?_
  clear hst; intro w hst
  (try refine nY ?_)
  (try replace hst := nH hst)
  have ok0 := startM_ok m
  repeat' (first | (((with_reducible (refine Sl.k_load ?_; with_unfolding_all refine s_qt hst (qt_load rfl _ BoxIn.h inX (tk_rg ok0) (len_rg ok0)) ?_))) <;> (try refine nY ?_)) | ((fail_if_success (go_big_may)); (go_step)) | (((with_reducible refine Sl.k_field ?_; (refine s_qt hst (qt_field rfl inX) ?_))) <;> (try refine nY ?_)))
  refine s_lit (vs := [dgV (startM m).1]) hst inX inX rfl rfl (by simp [Value.cells, u8s_length, ok0.a]) rfl (by omega) (by omega) ?_
  clear hst; intro u w hst
  (try refine nY ?_)
  repeat' (((fail_if_success (go_big_may)); (go_step)))
  have hone := sl_one hst
  have hfs : ∀ k, RgOk (regE m (hs.take k)) := fun k => regE_ok _ _
  go_loopw [6, 7] (fun u v wr => ∃ k : Nat, k ≤ hs.length ∧ v = .int .i64 k ∧ u.oneCell' = true ∧ St S (.sl u 23 16 (k + 1) (cF dgC ((List.range (k + 1)).map (regK m hs))) :: .box bk (rgC (regE m (hs.take k))) 40 :: .box bx (u8s m.l) 23 :: M) wr) (fun _ v _ => hs.length - (intOf v).toNat)
  case atStart => exact ⟨0, Nat.zero_le _, rfl, hone, hst⟩
  case round =>
    clear hst hone
    obtain ⟨k, hk, rfl, hone, hst⟩ := hrel
    by_cases hlt : k < hs.length
    · have hho := hh _ (List.getElem_mem hlt)
      have hfk := hfs k
      have hfk1 := hfs (k + 1)
      have hsu := Lib.hid (regE_succ m hs hlt)
      have hsn := Lib.hid (hist_snoc m hs (k + 1))
      have hlX := Lib.hid (show regK m hs (k + 1) = (regE m (hs.take (k + 1))).1 from rfl)
      have hl0 := hist_len m hs (k + 1)
      rw [hsu.out] at hfk1
      have cX := fun {S : Snap} {M : List Chunk} (w : World) (hst : St S M w) => rext_c w hst (regE m (hs.take k)) hfk hs[k] hho
      repeat' ((fail_if_success (with_reducible show Code.wp _ (Code.region 6 _ _) _ _ _)); first | ((fail_if_success (go_big_may)); (go_step)) | (((with_reducible refine Sl.k_call ?_; (refine s_qt hst (by exact qt_len evX asX inX) ?_))) <;> (try refine nY ?_)) | (with_reducible refine Sl.gate rfl ?_; (go_step)))
      generalize extM (regE m (hs.take k)) hs[k] = X at *
      generalize regE m (hs.take k) = R at *
      generalize (List.range (k + 1)).map (regK m hs) = L at *
      refine v_begin hst (by kernel_rfl) ?_; clear hst; intro ops; (try refine nY ?_)
      (refine t_qt 0 rfl (by kernel_rfl) rfl rfl (qt_loadF (x0 := R) evX BoxIn.h (r_rg hfk) inX) ?_) <;> (try refine nY ?_)
      (refine t_qt 1 rfl (by kernel_rfl) rfl rfl (by exact qt_move evX) ?_) <;> (try refine nY ?_)
      (refine t_qt 2 rfl (by kernel_rfl) rfl rfl (by exact qt_move evX) ?_) <;> (try refine nY ?_)
      ((refine t_ex0 3 rfl (by kernel_rfl) rfl rfl (qt_index evX hl rfl inX inX omX omX ) ?_; rintro  v3 hp3; simp only [Int.toNat_natCast] at hp3)) <;> (try refine nY ?_)
      (refine t_qt 4 rfl (by kernel_rfl) rfl rfl (qt_ldp_flat evX hp3 inX inX rfl) ?_) <;> (try refine nY ?_)
      (refine t_call 5 rfl (by kernel_rfl) rfl (fun S' M' w hS hM hst => cX w hst) inX rfl ?_) <;> (try refine nY ?_)
      refine v_one 6 rfl (by kernel_rfl) ?_; intro w hst K hK; refine s_stW0 hst rfl BoxIn.h inX (x0 := X) (cs := rgC X) evX (r_rg hfk1) (Rep.len (S := S) (r_rg hfk)) ?_; clear hst; intro w hst; (try refine nY ?_); (try replace hst := nH hst); refine v_last hK hst ?_; clear hst hK K; (try clear w); (try refine nY ?_)
      refine v_done (by kernel_rfl) ?_; clear ops; intro w hst
      repeat' (first | (((with_reducible (refine Sl.k_load ?_; with_unfolding_all refine s_qt hst (qt_load rfl _ BoxIn.h inX (tk_rg hfk1) (len_rg hfk1)) ?_))) <;> (try refine nY ?_)) | ((fail_if_success (go_big_may)); (go_step)) | (((with_reducible refine Sl.k_field ?_; (refine s_qt hst (qt_field rfl inX) ?_))) <;> (try refine nY ?_)))
      refine s_lit (vs := [dgV (X.1)]) hst inX inX rfl rfl (by simp [Value.cells, u8s_length, hfk1.a]) rfl (by omega) (by omega) ?_
      clear hst; intro u w hst
      (try refine nY ?_)
      (try replace hst := nH hst)
      repeat' (fail)
      refine s_append (j := 0) hst evX evX SlIn.h rfl inX inX inX (by simpa [Value.cells] using u8s_one (X.1).l) (by omega) (by omega) (by decide) ?_
      clear hst; intro v' w hst
      (try refine nY ?_)
      (try replace hst := nH hst)
      replace hst := hst.drop
      repeat' (first | ((fail_if_success (go_big_may)); (go_step)) | (with_reducible refine Sl.gate rfl ?_; (go_step)))
      have hone' := sl_one hst
      go_roundw
      case rel => exact ⟨k + 1, by omega, by go_num, hone', by rw [hsn.out, hlX.out, hsu.out, cF_snoc]; exact hst⟩
      case measure => simp [intOf]; omega
    · obtain rfl : k = hs.length := by omega
      repeat' (first | ((fail_if_success (go_big_may)); (go_step)) | (((with_reducible refine Sl.k_call ?_; (refine s_qt hst (by exact qt_len evX asX inX) ?_))) <;> (try refine nY ?_)) | (with_reducible refine Sl.gate rfl ?_; (go_step)))
      go_ret
      obtain ⟨S2, hS2, hst, hu⟩ := St.freeze (α := Dg) hst (rl_digs (histM_16 m hs)) (histM_len m hs).symm
      exact ⟨_, rfl, S2, hS2, hu, hone, hst.drop.drop⟩
end Go.Proofs.YtgihhhdeoaplhaaDoor

/- Package evidence: the reference's search for collisions, walked. -/
--@u32
--@hgp
--@flat
--@dg
--@ex0
namespace Go.Proofs.YtgihhhdeoaplhaaDoor
set_option linter.unusedSimpArgs false
set_option linter.unusedVariables false
open Go.RowKit Go.Sl

theorem collC_ne {m n : Dg} {a b : List Hd} : ∀ {i k : Nat}, regK m a i ≠ regK n b k → collC m a n b i k = false
  | 0, 0, h => by simp [collC, h]
  | 0, k + 1, h => by simp [collC, h]
  | i + 1, 0, h => by simp [collC, h]
  | i + 1, k + 1, h => by simp [collC, h]
theorem collC_00 {m n : Dg} {a b : List Hd} (h : regK m a 0 = regK n b 0) : collC m a n b 0 0 = !decide (m = n) := by simp [collC, h]
theorem collC_0k {m n : Dg} {a b : List Hd} {k : Nat} (h : regK m a 0 = regK n b k) (hk : 0 < k) : collC m a n b 0 k = true := by
  obtain ⟨k, rfl⟩ : ∃ j, k = j + 1 := ⟨k - 1, by omega⟩
  simp [collC, h]
theorem collC_i0 {m n : Dg} {a b : List Hd} {i : Nat} (h : regK m a i = regK n b 0) (hi : 0 < i) : collC m a n b i 0 = true := by
  obtain ⟨i, rfl⟩ : ∃ j, i = j + 1 := ⟨i - 1, by omega⟩
  simp [collC, h]
theorem collC_ss {m n : Dg} {a b : List Hd} {i k : Nat} (h : regK m a (i + 1) = regK n b (k + 1)) (hi : i < a.length) (hk : k < b.length) : collC m a n b (i + 1) (k + 1) = (!decide (codeZ a[i] = codeZ b[k]) || !decide (regK m a i = regK n b k) || collC m a n b i k) := by
  have e1 : a[i]? = some a[i] := List.getElem?_eq_getElem hi
  have e2 : b[k]? = some b[k] := List.getElem?_eq_getElem hk
  simp only [collC, h, e1, e2, Option.map_some, decide_true, Bool.true_and, ne_eq, Option.some.injEq, decide_not]
  congr 2
  rw [decide_eq_decide.2 codeZ_eq.symm]

set_option maxRecDepth 8000 in
set_option maxHeartbeats 4000000 in
theorem collides21_c {S M} (w : World) (hst : St S M w) (m : Dg) (hm : m.l.length = 16) (va : Value) (a : List Hd) (ha : RSl S va a) (oa : ∀ h ∈ a, HdOk h) (na : a.length ≤ 1000) (n : Dg) (hn : n.l.length = 16) (vb : Value) (b : List Hd) (hb : RSl S vb b) (ob : ∀ h ∈ b, HdOk h) (nb : b.length ≤ 1000) :
    Rets Tryd.prog 22 [dgV m, va, dgV n, vb] w fun v w' => v = .bool (collE m a n b) ∧ St S M w' := by
  unfold Rets
  haveI : LenIs m.l 16 := ⟨hm⟩
  haveI : LenIs n.l 16 := ⟨hn⟩
  have ha1 := ha.oneCell
  have hb1 := hb.oneCell
  have hXl : a.length + 1 ≤ (histM m a).length := Nat.le_of_eq (histM_len m a).symm
  have hYl : b.length + 1 ≤ (histM n b).length := Nat.le_of_eq (histM_len n b).symm
  have hXg := fun {i : Nat} (h : i < (histM m a).length) => Lib.hid (histM_get m a h)
  have hYg := fun {i : Nat} (h : i < (histM n b).length) => Lib.hid (histM_get n b h)
  have cX := fun {S' : Snap} {M : List Chunk} (w : World) (hS : S.Le S') (hst : St S' M w) => history_c w hst m hm va a (ha.mono hS) oa (by omega)
  have cY := fun {S' : Snap} {M : List Chunk} (w : World) (hS : S.Le S') (hst : St S' M w) => history_c w hst n hn vb b (hb.mono hS) ob (by omega)
  generalize histM m a = X at *
  generalize histM n b = Y at *
  go_enter Tryd.func22, Tryd.ntmps22
  repeat' ((fail_if_success (with_reducible show Code.wp _ (Code.region 1 _ _) _ _ _)); first | ((fail_if_success (go_big_may)); (go_step)) | (((((refine s_box hst evX rfl ?_; clear hst; intro bx w hst)))) <;> (try refine nY ?_) <;> (try replace hst := nH hst)))
  rename Nat => bn
  repeat' ((fail_if_success (with_reducible show Code.wp _ (Code.region 2 _ _) _ _ _)); first | (((with_reducible refine Sl.k_call ?_; ((refine s_call (cX _ (Snap.Le.refl _) hst) inX rfl ?_; clear hst; rintro v w ⟨S1, hS1, hvx, hvx1, hst⟩)))) <;> (try refine nY ?_) <;> (try replace hst := nH hst)) | ((fail_if_success (go_big_may)); (go_step)) | (((with_reducible refine Sl.k_load ?_; (refine s_qt hst (by exact qt_loadD evX BoxIn.h inX inX) ?_))) <;> (try refine nY ?_)))
  repeat' (first | (((with_reducible refine Sl.k_call ?_; ((refine s_call (cY _ hS1 hst) inX rfl ?_; clear hst; rintro v w ⟨S2, hS2, hvy, hvy1, hst⟩)))) <;> (try refine nY ?_) <;> (try replace hst := nH hst)) | ((fail_if_success (go_big_may)); (go_step)) | (((with_reducible refine Sl.k_load ?_; (refine s_qt hst (by exact qt_loadD evX BoxIn.h inX inX) ?_))) <;> (try refine nY ?_)))
  replace hvx := hvx.mono hS2
  replace ha := ha.mono (hS1.trans hS2)
  replace hb := hb.mono (hS1.trans hS2)
  have hle := hS1.trans hS2
  clear cX cY hS1 hS2
  repeat' (first | ((fail_if_success (go_big_may)); (go_step)) | (((with_reducible refine Sl.k_call ?_; (refine s_qt hst (by exact qt_len evX asX inX) ?_))) <;> (try refine nY ?_)))
  have hX16 := fun {i : Nat} (h : i < X.length) => hvx.dgs X[i] (List.getElem_mem h)
  have hY16 := fun {i : Nat} (h : i < Y.length) => hvy.dgs Y[i] (List.getElem_mem h)
  go_loopw [11, 12] (fun v1 v2 wr => ∃ (i k : Nat), i ≤ a.length ∧ k ≤ b.length ∧ v1 = .int .i64 i ∧ v2 = .int .i64 k ∧ Hid (collE m a n b = collC m a n b i k) ∧ St S2 (.box bn (u8s n.l) 23 :: .box bx (u8s m.l) 23 :: M) wr) (fun v _ _ => (intOf v).toNat)
  case atStart => exact ⟨a.length, b.length, Nat.le_refl _, Nat.le_refl _, rfl, rfl, Lib.hid rfl, hst⟩
  case round =>
    clear hst
    obtain ⟨i, k, hi, hk, rfl, rfl, hE, hst⟩ := hrel
    have hix : i < X.length := by omega
    have hky : k < Y.length := by omega
    have gX := (hXg hix).out
    have gY := (hYg hky).out
    have hX16 := hX16 hix
    have hY16 := hY16 hky
    obtain ⟨y, hy⟩ : ∃ y, decide (X[i] = Y[k]) = y := ⟨_, rfl⟩
    cases y with
    | false =>
      replace hE := Lib.hid (hE.out.trans (collC_ne (by rw [← gX, ← gY]; exact of_decide_eq_false hy)))
      clear gX gY
      repeat' ((fail_if_success (with_reducible show Code.wp _ (Code.region 5 _ _) _ _ _)); ((fail_if_success (go_big_may)); (go_step)))
      refine v_begin hst (by kernel_rfl) ?_; clear hst; intro ops; (try refine nY ?_)
      (refine t_qt 0 rfl (by kernel_rfl) rfl rfl (by exact qt_move evX) ?_) <;> (try refine nY ?_)
      (refine t_qt 1 rfl (by kernel_rfl) rfl rfl (by exact qt_move evX) ?_) <;> (try refine nY ?_)
      ((refine t_ex0 2 rfl (by kernel_rfl) rfl rfl (qt_index evX hvx rfl inX inX omX omX ) ?_; rintro  v2 hp2; simp only [Int.toNat_natCast] at hp2)) <;> (try refine nY ?_)
      (refine t_qt 3 rfl (by kernel_rfl) rfl rfl (qt_ldp_flat evX hp2 inX inX rfl) ?_) <;> (try refine nY ?_)
      (refine t_qt 4 rfl (by kernel_rfl) rfl rfl (by exact qt_move evX) ?_) <;> (try refine nY ?_)
      (refine t_qt 5 rfl (by kernel_rfl) rfl rfl (by exact qt_move evX) ?_) <;> (try refine nY ?_)
      ((refine t_ex0 6 rfl (by kernel_rfl) rfl rfl (qt_index evX hvy rfl inX inX omX omX ) ?_; rintro  v6 hp6; simp only [Int.toNat_natCast] at hp6)) <;> (try refine nY ?_)
      (refine t_qt 7 rfl (by kernel_rfl) rfl rfl (qt_ldp_flat evX hp6 inX inX rfl) ?_) <;> (try refine nY ?_)
      (refine t_qt 8 rfl (by kernel_rfl) rfl rfl (qt_eqlK_b rfl rfl (r_dg hX16) (r_dg hY16) inX inX inferInstance hy) ?_) <;> (try refine nY ?_)
      refine v_done (by kernel_rfl) ?_; clear ops; intro w hst
      repeat' (((fail_if_success (go_big_may)); (go_step)))
      go_ret
      exact ⟨_, rfl, by rw [hE.out]; rfl, St.weaken hle hst.drop.drop⟩
    | true =>
      have hxy : regK m a i = regK n b k := by rw [← gX, ← gY]; exact of_decide_eq_true hy
      clear gX gY
      by_cases hi0 : i = 0
      · subst hi0
        by_cases hk0 : k = 0
        · subst hk0
          replace hE := Lib.hid (hE.out.trans (collC_00 hxy))
          clear hxy
          obtain ⟨z, hz⟩ : ∃ z, decide (m = n) = z := ⟨_, rfl⟩
          rw [hz] at hE
          repeat' ((fail_if_success (with_reducible show Code.wp _ (Code.region 5 _ _) _ _ _)); ((fail_if_success (go_big_may)); (go_step)))
          refine v_begin hst (by kernel_rfl) ?_; clear hst; intro ops; (try refine nY ?_)
          (refine t_qt 0 rfl (by kernel_rfl) rfl rfl (by exact qt_move evX) ?_) <;> (try refine nY ?_)
          (refine t_qt 1 rfl (by kernel_rfl) rfl rfl (by exact qt_move evX) ?_) <;> (try refine nY ?_)
          ((refine t_ex0 2 rfl (by kernel_rfl) rfl rfl (qt_index evX hvx rfl inX inX omX omX ) ?_; rintro  v2 hp2; simp only [Int.toNat_natCast] at hp2)) <;> (try refine nY ?_)
          (refine t_qt 3 rfl (by kernel_rfl) rfl rfl (qt_ldp_flat evX hp2 inX inX rfl) ?_) <;> (try refine nY ?_)
          (refine t_qt 4 rfl (by kernel_rfl) rfl rfl (by exact qt_move evX) ?_) <;> (try refine nY ?_)
          (refine t_qt 5 rfl (by kernel_rfl) rfl rfl (by exact qt_move evX) ?_) <;> (try refine nY ?_)
          ((refine t_ex0 6 rfl (by kernel_rfl) rfl rfl (qt_index evX hvy rfl inX inX omX omX ) ?_; rintro  v6 hp6; simp only [Int.toNat_natCast] at hp6)) <;> (try refine nY ?_)
          (refine t_qt 7 rfl (by kernel_rfl) rfl rfl (qt_ldp_flat evX hp6 inX inX rfl) ?_) <;> (try refine nY ?_)
          (refine t_qt 8 rfl (by kernel_rfl) rfl rfl (qt_eqlK_b rfl rfl (r_dg hX16) (r_dg hY16) inX inX inferInstance hy) ?_) <;> (try refine nY ?_)
          refine v_done (by kernel_rfl) ?_; clear ops; intro w hst
          repeat' (first | ((first | (with_reducible refine Sl.k_bin ?_; (first | (refine s_qt hst (qt_eql_self rfl rfl) ?_) | refine s_qt hst (qt_neqK_b rfl rfl (r_dgx hm) (r_dgx hn) inX inX inferInstance hz) ?_)) | (with_reducible refine Sl.k_guard ?_; ((refine Sl.guard_yes rfl ?_)))) <;> (try refine nY ?_)) | ((fail_if_success (go_big_may)); (go_step)) | (((with_reducible refine Sl.k_load ?_; (refine s_qt hst (by exact qt_loadD evX BoxIn.h inX inX) ?_))) <;> (try refine nY ?_)))
          go_ret
          exact ⟨_, rfl, by rw [hE.out]; rfl, St.weaken hle hst.drop.drop⟩
        · have hk1 : 0 < k := by omega
          replace hE := Lib.hid (hE.out.trans (collC_0k hxy hk1))
          clear hxy hk0
          repeat' ((fail_if_success (with_reducible show Code.wp _ (Code.region 5 _ _) _ _ _)); ((fail_if_success (go_big_may)); (go_step)))
          refine v_begin hst (by kernel_rfl) ?_; clear hst; intro ops; (try refine nY ?_)
          (refine t_qt 0 rfl (by kernel_rfl) rfl rfl (by exact qt_move evX) ?_) <;> (try refine nY ?_)
          (refine t_qt 1 rfl (by kernel_rfl) rfl rfl (by exact qt_move evX) ?_) <;> (try refine nY ?_)
          ((refine t_ex0 2 rfl (by kernel_rfl) rfl rfl (qt_index evX hvx rfl inX inX omX omX ) ?_; rintro  v2 hp2; simp only [Int.toNat_natCast] at hp2)) <;> (try refine nY ?_)
          (refine t_qt 3 rfl (by kernel_rfl) rfl rfl (qt_ldp_flat evX hp2 inX inX rfl) ?_) <;> (try refine nY ?_)
          (refine t_qt 4 rfl (by kernel_rfl) rfl rfl (by exact qt_move evX) ?_) <;> (try refine nY ?_)
          (refine t_qt 5 rfl (by kernel_rfl) rfl rfl (by exact qt_move evX) ?_) <;> (try refine nY ?_)
          ((refine t_ex0 6 rfl (by kernel_rfl) rfl rfl (qt_index evX hvy rfl inX inX omX omX ) ?_; rintro  v6 hp6; simp only [Int.toNat_natCast] at hp6)) <;> (try refine nY ?_)
          (refine t_qt 7 rfl (by kernel_rfl) rfl rfl (qt_ldp_flat evX hp6 inX inX rfl) ?_) <;> (try refine nY ?_)
          (refine t_qt 8 rfl (by kernel_rfl) rfl rfl (qt_eqlK_b rfl rfl (r_dg hX16) (r_dg hY16) inX inX inferInstance hy) ?_) <;> (try refine nY ?_)
          refine v_done (by kernel_rfl) ?_; clear ops; intro w hst
          repeat' (first | (((with_reducible refine Sl.k_guard ?_; (first | (refine Sl.guard_yes rfl ?_) | (refine Sl.guard_no rfl ?_)))) <;> (try refine nY ?_)) | ((fail_if_success (go_big_may)); (go_step)) | (with_reducible refine Sl.gate rfl ?_; (go_step)))
          go_ret
          exact ⟨_, rfl, by rw [hE.out]; rfl, St.weaken hle hst.drop.drop⟩
      · have hi1 : 0 < i := by omega
        by_cases hk0 : k = 0
        · subst hk0
          replace hE := Lib.hid (hE.out.trans (collC_i0 hxy hi1))
          clear hxy hi0
          repeat' ((fail_if_success (with_reducible show Code.wp _ (Code.region 5 _ _) _ _ _)); ((fail_if_success (go_big_may)); (go_step)))
          refine v_begin hst (by kernel_rfl) ?_; clear hst; intro ops; (try refine nY ?_)
          (refine t_qt 0 rfl (by kernel_rfl) rfl rfl (by exact qt_move evX) ?_) <;> (try refine nY ?_)
          (refine t_qt 1 rfl (by kernel_rfl) rfl rfl (by exact qt_move evX) ?_) <;> (try refine nY ?_)
          ((refine t_ex0 2 rfl (by kernel_rfl) rfl rfl (qt_index evX hvx rfl inX inX omX omX ) ?_; rintro  v2 hp2; simp only [Int.toNat_natCast] at hp2)) <;> (try refine nY ?_)
          (refine t_qt 3 rfl (by kernel_rfl) rfl rfl (qt_ldp_flat evX hp2 inX inX rfl) ?_) <;> (try refine nY ?_)
          (refine t_qt 4 rfl (by kernel_rfl) rfl rfl (by exact qt_move evX) ?_) <;> (try refine nY ?_)
          (refine t_qt 5 rfl (by kernel_rfl) rfl rfl (by exact qt_move evX) ?_) <;> (try refine nY ?_)
          ((refine t_ex0 6 rfl (by kernel_rfl) rfl rfl (qt_index evX hvy rfl inX inX omX omX ) ?_; rintro  v6 hp6; simp only [Int.toNat_natCast] at hp6)) <;> (try refine nY ?_)
          (refine t_qt 7 rfl (by kernel_rfl) rfl rfl (qt_ldp_flat evX hp6 inX inX rfl) ?_) <;> (try refine nY ?_)
          (refine t_qt 8 rfl (by kernel_rfl) rfl rfl (qt_eqlK_b rfl rfl (r_dg hX16) (r_dg hY16) inX inX inferInstance hy) ?_) <;> (try refine nY ?_)
          refine v_done (by kernel_rfl) ?_; clear ops; intro w hst
          repeat' (first | (((with_reducible refine Sl.k_guard ?_; (first | (refine Sl.guard_yes rfl ?_) | (refine Sl.guard_no rfl ?_) | (refine Sl.guard_cases rfl ?_ ?_ <;> intro hg <;> first | (exfalso; simp only [decide_eq_true_eq, decide_eq_false_iff_not, Bool.not_false, Bool.not_true, beq_iff_eq, beq_eq_false_iff_ne, ne_eq] at hg; omega) | (simp only [hg, Bool.not_true, Bool.not_false])) <;> (try simp only [decide_eq_true_eq, decide_eq_false_iff_not, Bool.not_false, Bool.not_true, beq_iff_eq, beq_eq_false_iff_ne, bne_iff_ne, bne_eq_false_iff_eq, ne_eq] at hg)))) <;> (try refine nY ?_)) | ((fail_if_success (go_big_may)); (go_step)) | (with_reducible refine Sl.gate rfl ?_; (go_step)))
          go_ret
          exact ⟨_, rfl, by rw [hE.out]; rfl, St.weaken hle hst.drop.drop⟩
        · have hk1 : 0 < k := by omega
          obtain ⟨i, rfl⟩ : ∃ j, i = j + 1 := ⟨i - 1, by omega⟩
          obtain ⟨k, rfl⟩ : ∃ j, k = j + 1 := ⟨k - 1, by omega⟩
          have hia : i < a.length := by omega
          have hkb : k < b.length := by omega
          have hi0x : i < X.length := by omega
          have hk0y : k < Y.length := by omega
          replace hE := Lib.hid (hE.out.trans (collC_ss hxy hia hkb))
          clear hxy hi0 hk0 hi1 hk1
          have gX := Lib.hid (hXg hi0x).out
          have gY := Lib.hid (hYg hk0y).out
          have hX0 := hvx.dgs X[i] (List.getElem_mem hi0x)
          have hY0 := hvy.dgs Y[k] (List.getElem_mem hk0y)
          have oka := oa _ (List.getElem_mem hia)
          have okb := ob _ (List.getElem_mem hkb)
          have hi1 : (((i + 1 : Nat) : Int) - 1).toNat = i := by omega
          have hk1 : (((k + 1 : Nat) : Int) - 1).toNat = k := by omega
          obtain ⟨z, hz⟩ : ∃ z, decide (codeZ a[i] = codeZ b[k]) = z := ⟨_, rfl⟩
          obtain ⟨u, hu⟩ : ∃ z, decide (X[i] = Y[k]) = z := ⟨_, rfl⟩
          rw [hz, ← gX.out, ← gY.out, hu] at hE
          repeat' ((fail_if_success (with_reducible show Code.wp _ (Code.region 5 _ _) _ _ _)); ((fail_if_success (go_big_may)); (go_step)))
          refine v_begin hst (by kernel_rfl) ?_; clear hst; intro ops; (try refine nY ?_)
          (refine t_qt 0 rfl (by kernel_rfl) rfl rfl (by exact qt_move evX) ?_) <;> (try refine nY ?_)
          (refine t_qt 1 rfl (by kernel_rfl) rfl rfl (by exact qt_move evX) ?_) <;> (try refine nY ?_)
          ((refine t_ex0 2 rfl (by kernel_rfl) rfl rfl (qt_index evX hvx rfl inX inX omX omX ) ?_; rintro  v2 hp2; simp only [Int.toNat_natCast] at hp2)) <;> (try refine nY ?_)
          (refine t_qt 3 rfl (by kernel_rfl) rfl rfl (qt_ldp_flat evX hp2 inX inX rfl) ?_) <;> (try refine nY ?_)
          (refine t_qt 4 rfl (by kernel_rfl) rfl rfl (by exact qt_move evX) ?_) <;> (try refine nY ?_)
          (refine t_qt 5 rfl (by kernel_rfl) rfl rfl (by exact qt_move evX) ?_) <;> (try refine nY ?_)
          ((refine t_ex0 6 rfl (by kernel_rfl) rfl rfl (qt_index evX hvy rfl inX inX omX omX ) ?_; rintro  v6 hp6; simp only [Int.toNat_natCast] at hp6)) <;> (try refine nY ?_)
          (refine t_qt 7 rfl (by kernel_rfl) rfl rfl (qt_ldp_flat evX hp6 inX inX rfl) ?_) <;> (try refine nY ?_)
          (refine t_qt 8 rfl (by kernel_rfl) rfl rfl (qt_eqlK_b rfl rfl (r_dg hX16) (r_dg hY16) inX inX inferInstance hy) ?_) <;> (try refine nY ?_)
          refine v_done (by kernel_rfl) ?_; clear ops; intro w hst
          have hzi : ((((i + 1 : Nat) : Int)) == 0) = false := beq_eq_false_iff_ne.2 (by omega)
          have hzk : ((((k + 1 : Nat) : Int)) == 0) = false := beq_eq_false_iff_ne.2 (by omega)
          repeat' ((fail_if_success (with_reducible show Code.wp _ (Code.region 10 _ _) _ _ _)); first | ((first | (with_reducible refine Sl.k_bin ?_; (first | refine s_qt hst (qt_eql_b rfl rfl hzi) ?_ | refine s_qt hst (qt_eql_b rfl rfl hzk) ?_)) | (with_reducible refine Sl.k_guard ?_; (first | (refine Sl.guard_yes rfl ?_) | (refine Sl.guard_no rfl ?_)))) <;> (try refine nY ?_)) | ((fail_if_success (go_big_may)); (go_step)))
          clear hzi hzk
          cases z with
          | false =>
            refine v_begin hst (by kernel_rfl) ?_; clear hst; intro ops; (try refine nY ?_)
            (refine t_qt 0 rfl (by kernel_rfl) rfl rfl (by exact qt_move evX) ?_) <;> (try refine nY ?_)
            (refine t_qt 1 rfl (by kernel_rfl) rfl rfl (by exact qt_move evX) ?_) <;> (try refine nY ?_)
            (refine t_qt 2 rfl (by kernel_rfl) rfl rfl (by exact qt_sub' rfl rfl omX) ?_) <;> (try refine nY ?_)
            ((refine t_ex0 3 rfl (by kernel_rfl) rfl rfl (qt_index evX ha rfl inX inX omX omX ) ?_; rintro  v3 hp3; simp only [hi1] at hp3)) <;> (try refine nY ?_)
            (refine t_qt 4 rfl (by kernel_rfl) rfl rfl (qt_ldp_flat evX hp3 inX inX rfl) ?_) <;> (try refine nY ?_)
            (refine t_call 5 rfl (by kernel_rfl) rfl (fun S' M' w hS hM hst => code_c w hst a[i] oka) inX rfl ?_) <;> (try refine nY ?_)
            (refine t_qt 6 rfl (by kernel_rfl) rfl rfl (by exact qt_move evX) ?_) <;> (try refine nY ?_)
            (refine t_qt 7 rfl (by kernel_rfl) rfl rfl (by exact qt_move evX) ?_) <;> (try refine nY ?_)
            (refine t_qt 8 rfl (by kernel_rfl) rfl rfl (by exact qt_sub' rfl rfl omX) ?_) <;> (try refine nY ?_)
            ((refine t_ex0 9 rfl (by kernel_rfl) rfl rfl (qt_index evX hb rfl inX inX omX omX ) ?_; rintro  v9 hp9; simp only [hk1] at hp9)) <;> (try refine nY ?_)
            (refine t_qt 10 rfl (by kernel_rfl) rfl rfl (qt_ldp_flat evX hp9 inX inX rfl) ?_) <;> (try refine nY ?_)
            (refine t_call 11 rfl (by kernel_rfl) rfl (fun S' M' w hS hM hst => code_c w hst b[k] okb) inX rfl ?_) <;> (try refine nY ?_)
            (refine t_qt 12 rfl (by kernel_rfl) rfl rfl (qt_neqK_b rfl rfl (r_hd (codeZ_ok oka)) (r_hd (codeZ_ok okb)) inX inX inferInstance hz) ?_) <;> (try refine nY ?_)
            (refine t_qt 13 rfl (by kernel_rfl) rfl rfl (by exact qt_move evX) ?_) <;> (try refine nY ?_)
            (refine t_no 14 rfl (by kernel_rfl) rfl rfl ?_) <;> (try refine nY ?_)
            (refine t_no 15 rfl (by kernel_rfl) rfl rfl ?_) <;> (try refine nY ?_)
            (refine t_no 16 rfl (by kernel_rfl) rfl rfl ?_) <;> (try refine nY ?_)
            (refine t_no 17 rfl (by kernel_rfl) rfl rfl ?_) <;> (try refine nY ?_)
            (refine t_no 18 rfl (by kernel_rfl) rfl rfl ?_) <;> (try refine nY ?_)
            (refine t_no 19 rfl (by kernel_rfl) rfl rfl ?_) <;> (try refine nY ?_)
            (refine t_no 20 rfl (by kernel_rfl) rfl rfl ?_) <;> (try refine nY ?_)
            (refine t_no 21 rfl (by kernel_rfl) rfl rfl ?_) <;> (try refine nY ?_)
            (refine t_no 22 rfl (by kernel_rfl) rfl rfl ?_) <;> (try refine nY ?_)
            (refine t_no 23 rfl (by kernel_rfl) rfl rfl ?_) <;> (try refine nY ?_)
            (refine t_no 24 rfl (by kernel_rfl) rfl rfl ?_) <;> (try refine nY ?_)
            (refine t_qt 25 rfl (by kernel_rfl) rfl rfl (by exact qt_pick_t rfl evX) ?_) <;> (try refine nY ?_)
            refine v_done (by kernel_rfl) ?_; clear ops; intro w hst
            repeat' (((fail_if_success (go_big_may)); (go_step)))
            go_ret
            exact ⟨_, rfl, by rw [hE.out]; rfl, St.weaken hle hst.drop.drop⟩
          | true =>
            cases u with
            | false =>
              refine v_begin hst (by kernel_rfl) ?_; clear hst; intro ops; (try refine nY ?_)
              (refine t_qt 0 rfl (by kernel_rfl) rfl rfl (by exact qt_move evX) ?_) <;> (try refine nY ?_)
              (refine t_qt 1 rfl (by kernel_rfl) rfl rfl (by exact qt_move evX) ?_) <;> (try refine nY ?_)
              (refine t_qt 2 rfl (by kernel_rfl) rfl rfl (by exact qt_sub' rfl rfl omX) ?_) <;> (try refine nY ?_)
              ((refine t_ex0 3 rfl (by kernel_rfl) rfl rfl (qt_index evX ha rfl inX inX omX omX ) ?_; rintro  v3 hp3; simp only [hi1] at hp3)) <;> (try refine nY ?_)
              (refine t_qt 4 rfl (by kernel_rfl) rfl rfl (qt_ldp_flat evX hp3 inX inX rfl) ?_) <;> (try refine nY ?_)
              (refine t_call 5 rfl (by kernel_rfl) rfl (fun S' M' w hS hM hst => code_c w hst a[i] oka) inX rfl ?_) <;> (try refine nY ?_)
              (refine t_qt 6 rfl (by kernel_rfl) rfl rfl (by exact qt_move evX) ?_) <;> (try refine nY ?_)
              (refine t_qt 7 rfl (by kernel_rfl) rfl rfl (by exact qt_move evX) ?_) <;> (try refine nY ?_)
              (refine t_qt 8 rfl (by kernel_rfl) rfl rfl (by exact qt_sub' rfl rfl omX) ?_) <;> (try refine nY ?_)
              ((refine t_ex0 9 rfl (by kernel_rfl) rfl rfl (qt_index evX hb rfl inX inX omX omX ) ?_; rintro  v9 hp9; simp only [hk1] at hp9)) <;> (try refine nY ?_)
              (refine t_qt 10 rfl (by kernel_rfl) rfl rfl (qt_ldp_flat evX hp9 inX inX rfl) ?_) <;> (try refine nY ?_)
              (refine t_call 11 rfl (by kernel_rfl) rfl (fun S' M' w hS hM hst => code_c w hst b[k] okb) inX rfl ?_) <;> (try refine nY ?_)
              (refine t_qt 12 rfl (by kernel_rfl) rfl rfl (qt_neqK_b rfl rfl (r_hd (codeZ_ok oka)) (r_hd (codeZ_ok okb)) inX inX inferInstance hz) ?_) <;> (try refine nY ?_)
              (refine t_qt 13 rfl (by kernel_rfl) rfl rfl (by exact qt_move evX) ?_) <;> (try refine nY ?_)
              (refine t_qt 14 rfl (by kernel_rfl) rfl rfl (by exact qt_move evX) ?_) <;> (try refine nY ?_)
              (refine t_qt 15 rfl (by kernel_rfl) rfl rfl (by exact qt_move evX) ?_) <;> (try refine nY ?_)
              (refine t_qt 16 rfl (by kernel_rfl) rfl rfl (by exact qt_sub' rfl rfl omX) ?_) <;> (try refine nY ?_)
              (((refine t_ex0 17 rfl (by kernel_rfl) rfl rfl (qt_index evX hvx rfl inX inX omX omX ) ?_; rintro  v17 hp17; simp only [hi1] at hp17))) <;> (try refine nY ?_)
              ((refine t_qt 18 rfl (by kernel_rfl) rfl rfl (qt_ldp_flat evX hp17 inX inX rfl) ?_)) <;> (try refine nY ?_)
              (refine t_qt 19 rfl (by kernel_rfl) rfl rfl (by exact qt_move evX) ?_) <;> (try refine nY ?_)
              (refine t_qt 20 rfl (by kernel_rfl) rfl rfl (by exact qt_move evX) ?_) <;> (try refine nY ?_)
              (refine t_qt 21 rfl (by kernel_rfl) rfl rfl (by exact qt_sub' rfl rfl omX) ?_) <;> (try refine nY ?_)
              (((refine t_ex0 22 rfl (by kernel_rfl) rfl rfl (qt_index evX hvy rfl inX inX omX omX ) ?_; rintro  v22 hp22; simp only [hk1] at hp22))) <;> (try refine nY ?_)
              ((refine t_qt 23 rfl (by kernel_rfl) rfl rfl (qt_ldp_flat evX hp22 inX inX rfl) ?_)) <;> (try refine nY ?_)
              ((refine t_qt 24 rfl (by kernel_rfl) rfl rfl (qt_neqK_b rfl rfl (r_dg hX0) (r_dg hY0) inX inX inferInstance hu) ?_)) <;> (try refine nY ?_)
              (refine t_qt 25 rfl (by kernel_rfl) rfl rfl (by exact qt_pick_f rfl evX) ?_) <;> (try refine nY ?_)
              refine v_done (by kernel_rfl) ?_; clear ops; intro w hst
              repeat' (((fail_if_success (go_big_may)); (go_step)))
              go_ret
              exact ⟨_, rfl, by rw [hE.out]; rfl, St.weaken hle hst.drop.drop⟩
            | true =>
              refine v_begin hst (by kernel_rfl) ?_; clear hst; intro ops; (try refine nY ?_)
              (refine t_qt 0 rfl (by kernel_rfl) rfl rfl (by exact qt_move evX) ?_) <;> (try refine nY ?_)
              (refine t_qt 1 rfl (by kernel_rfl) rfl rfl (by exact qt_move evX) ?_) <;> (try refine nY ?_)
              (refine t_qt 2 rfl (by kernel_rfl) rfl rfl (by exact qt_sub' rfl rfl omX) ?_) <;> (try refine nY ?_)
              ((refine t_ex0 3 rfl (by kernel_rfl) rfl rfl (qt_index evX ha rfl inX inX omX omX ) ?_; rintro  v3 hp3; simp only [hi1] at hp3)) <;> (try refine nY ?_)
              (refine t_qt 4 rfl (by kernel_rfl) rfl rfl (qt_ldp_flat evX hp3 inX inX rfl) ?_) <;> (try refine nY ?_)
              (refine t_call 5 rfl (by kernel_rfl) rfl (fun S' M' w hS hM hst => code_c w hst a[i] oka) inX rfl ?_) <;> (try refine nY ?_)
              (refine t_qt 6 rfl (by kernel_rfl) rfl rfl (by exact qt_move evX) ?_) <;> (try refine nY ?_)
              (refine t_qt 7 rfl (by kernel_rfl) rfl rfl (by exact qt_move evX) ?_) <;> (try refine nY ?_)
              (refine t_qt 8 rfl (by kernel_rfl) rfl rfl (by exact qt_sub' rfl rfl omX) ?_) <;> (try refine nY ?_)
              ((refine t_ex0 9 rfl (by kernel_rfl) rfl rfl (qt_index evX hb rfl inX inX omX omX ) ?_; rintro  v9 hp9; simp only [hk1] at hp9)) <;> (try refine nY ?_)
              (refine t_qt 10 rfl (by kernel_rfl) rfl rfl (qt_ldp_flat evX hp9 inX inX rfl) ?_) <;> (try refine nY ?_)
              (refine t_call 11 rfl (by kernel_rfl) rfl (fun S' M' w hS hM hst => code_c w hst b[k] okb) inX rfl ?_) <;> (try refine nY ?_)
              (refine t_qt 12 rfl (by kernel_rfl) rfl rfl (qt_neqK_b rfl rfl (r_hd (codeZ_ok oka)) (r_hd (codeZ_ok okb)) inX inX inferInstance hz) ?_) <;> (try refine nY ?_)
              (refine t_qt 13 rfl (by kernel_rfl) rfl rfl (by exact qt_move evX) ?_) <;> (try refine nY ?_)
              (refine t_qt 14 rfl (by kernel_rfl) rfl rfl (by exact qt_move evX) ?_) <;> (try refine nY ?_)
              (refine t_qt 15 rfl (by kernel_rfl) rfl rfl (by exact qt_move evX) ?_) <;> (try refine nY ?_)
              (refine t_qt 16 rfl (by kernel_rfl) rfl rfl (by exact qt_sub' rfl rfl omX) ?_) <;> (try refine nY ?_)
              (((refine t_ex0 17 rfl (by kernel_rfl) rfl rfl (qt_index evX hvx rfl inX inX omX omX ) ?_; rintro  v17 hp17; simp only [hi1] at hp17))) <;> (try refine nY ?_)
              ((refine t_qt 18 rfl (by kernel_rfl) rfl rfl (qt_ldp_flat evX hp17 inX inX rfl) ?_)) <;> (try refine nY ?_)
              (refine t_qt 19 rfl (by kernel_rfl) rfl rfl (by exact qt_move evX) ?_) <;> (try refine nY ?_)
              (refine t_qt 20 rfl (by kernel_rfl) rfl rfl (by exact qt_move evX) ?_) <;> (try refine nY ?_)
              (refine t_qt 21 rfl (by kernel_rfl) rfl rfl (by exact qt_sub' rfl rfl omX) ?_) <;> (try refine nY ?_)
              (((refine t_ex0 22 rfl (by kernel_rfl) rfl rfl (qt_index evX hvy rfl inX inX omX omX ) ?_; rintro  v22 hp22; simp only [hk1] at hp22))) <;> (try refine nY ?_)
              ((refine t_qt 23 rfl (by kernel_rfl) rfl rfl (qt_ldp_flat evX hp22 inX inX rfl) ?_)) <;> (try refine nY ?_)
              ((refine t_qt 24 rfl (by kernel_rfl) rfl rfl (qt_neqK_b rfl rfl (r_dg hX0) (r_dg hY0) inX inX inferInstance hu) ?_)) <;> (try refine nY ?_)
              (refine t_qt 25 rfl (by kernel_rfl) rfl rfl (by exact qt_pick_f rfl evX) ?_) <;> (try refine nY ?_)
              refine v_done (by kernel_rfl) ?_; clear ops; intro w hst
              repeat' (first | ((fail_if_success (go_big_may)); (go_step)) | (with_reducible refine Sl.gate rfl ?_; (go_step)))
              go_roundw
              case rel => exact ⟨i, k, by omega, by omega, by go_num, by go_num, Lib.hid (by rw [hE.out]; rfl), hst⟩
              case measure => simp [intOf]
end Go.Proofs.YtgihhhdeoaplhaaDoor

/- Package evidence: small evidence, walked. -/
--@u32
--@hgp
--@flat
--@dg
--@ex0
namespace Go.Proofs.YtgihhhdeoaplhaaDoor
set_option linter.unusedSimpArgs false
set_option linter.unusedVariables false
open Go.RowKit Go.Sl

def smallP (ev : Evd) : Prop := ev.2.1.length ≤ 10 ∧ ev.2.2.1.length ≤ 20 ∧ (∀ h ∈ ev.2.1, h.2.2.1 ≤ 20) ∧ ∀ p ∈ ev.2.2.1, p.2.2.2.1.length ≤ 10
instance (ev : Evd) : Decidable (smallP ev) := inferInstanceAs (Decidable (_ ∧ _ ∧ _ ∧ _))
def smallM (ev : Evd) : Bool := decide (smallP ev)
theorem smallM_no {ev : Evd} (h : ¬ smallP ev) : smallM ev = false := decide_eq_false h
theorem smallM_yes {ev : Evd} (h : smallP ev) : smallM ev = true := decide_eq_true h

set_option maxRecDepth 8000 in
set_option maxHeartbeats 2000000 in
theorem small_c {S M} (w : World) (hst : St S M w) (cs : List Value) (ev : Evd) (hR : Rep.R S cs ev) :
    Rets Tryd.prog 14 [.agg cs.toArray] w fun v w' => v = .bool (smallM ev) ∧ St S M w' := by
  unfold Rets
  go_enter Tryd.func14, Tryd.ntmps14
  repeat' ((fail_if_success (with_reducible show Code.wp _ (Code.region 1 _ _) _ _ _)); first | ((fail_if_success (go_big_may)); (go_step)) | (((((refine s_box hst evX rfl ?_; clear hst; intro bx w hst)))) <;> (try refine nY ?_) <;> (try replace hst := nH hst)))
  have hst0 := hst
  clear hst
  obtain ⟨S1, hS1, hst, hpe⟩ := pt_box (α := Evd) hst0 hR (Rep.len hR)
  clear hst0
  generalize Value.pointer (some ⟨bx, 0, none⟩) = pE at *
  have hno := fun h => Lib.hid (smallM_no (ev := ev) h)
  have hyes := fun h => Lib.hid (smallM_yes (ev := ev) h)
  by_cases hb : 10 < ev.2.1.length ∨ 20 < ev.2.2.1.length
  · have hE := (hno (fun h => by have h1 := h.1; have h2 := h.2.1; omega)).out
    repeat' (first | go_skip | (((with_reducible refine Sl.k_guard ?_; (first | (refine Sl.guard_yes rfl ?_) | (refine Sl.guard_cases rfl ?_ ?_ <;> intro hg <;> (simp only [hg, Bool.not_true, Bool.not_false])) <;> (try simp only [decide_eq_true_eq, decide_eq_false_iff_not, Bool.not_false, Bool.not_true, beq_iff_eq, beq_eq_false_iff_ne, bne_iff_ne, bne_eq_false_iff_eq, ne_eq] at hg)))) <;> (try refine nY ?_)) | ((fail_if_success (go_big_may)); (go_step)) | ((first | (with_reducible refine Sl.k_load ?_; ((refine s_ex hst (qt_ldp_list evX asX inX) ?_; rintro v ⟨hvl, hv1⟩))) | (with_reducible refine Sl.k_field ?_; (((refine s_ex hst (qt_fieldp evX asX inX inX rfl) ?_); rintro v hp; (try simp only [Int.toNat_natCast, Int.toNat_natCast_add_one, Int.reduceToNat] at hp)))) | (with_reducible refine Sl.k_call ?_; (refine s_qt hst (by exact qt_len evX asX inX) ?_))) <;> (try refine nY ?_)) | (with_reducible refine Sl.gate rfl ?_; (go_step)))
    all_goals first
      | (go_ret; exact ⟨_, rfl, by rw [hE]; rfl, St.weaken hS1 hst⟩)
      | (exfalso; omega)
  · have hb1 : ev.2.1.length ≤ 10 := by omega
    have hb2 : ev.2.2.1.length ≤ 20 := by omega
    repeat' (first | (((with_reducible refine Sl.k_guard ?_; (first | (refine Sl.guard_yes rfl ?_) | (refine Sl.guard_cases rfl ?_ ?_ <;> intro hg <;> first | (exfalso; simp only [decide_eq_true_eq, decide_eq_false_iff_not, Bool.not_false, Bool.not_true, beq_iff_eq, beq_eq_false_iff_ne, ne_eq] at hg; omega) | (simp only [hg, Bool.not_true, Bool.not_false])) <;> (try simp only [decide_eq_true_eq, decide_eq_false_iff_not, Bool.not_false, Bool.not_true, beq_iff_eq, beq_eq_false_iff_ne, bne_iff_ne, bne_eq_false_iff_eq, ne_eq] at hg)))) <;> (try refine nY ?_)) | ((fail_if_success (go_big_may)); (go_step)) | ((first | (with_reducible refine Sl.k_load ?_; ((refine s_ex hst (qt_ldp_list evX asX inX) ?_; rintro v ⟨hvl, hv1⟩))) | (with_reducible refine Sl.k_field ?_; (((refine s_ex hst (qt_fieldp evX asX inX inX rfl) ?_); rintro v hp; (try simp only [Int.toNat_natCast, Int.toNat_natCast_add_one, Int.reduceToNat] at hp)))) | (with_reducible refine Sl.k_call ?_; (refine s_qt hst (by exact qt_len evX asX inX) ?_))) <;> (try refine nY ?_)) | (with_reducible refine Sl.gate rfl ?_; (go_step)))
    go_loopw [3] (fun v wr => ∃ i : Nat, i ≤ ev.2.1.length ∧ v = .int .i64 i ∧ Hid (∀ h ∈ ev.2.1.take i, h.2.2.1 ≤ 20) ∧ St S1 M wr) (fun v _ => ev.2.1.length - (intOf v).toNat)
    case atStart => exact ⟨0, Nat.zero_le _, rfl, Lib.hid (by simp), hst⟩
    case round =>
      clear hst
      obtain ⟨i, hi, rfl, ht, hst⟩ := hrel
      by_cases hlt : i < ev.2.1.length
      · by_cases hc : 20 < ev.2.1[i].2.2.1
        · have hE := (hno (fun h => by have := h.2.2.1 _ (List.getElem_mem hlt); omega)).out
          repeat' (first | ((fail_if_success (go_big_may)); (go_step)) | ((first | (with_reducible refine Sl.k_load ?_; (first | (refine s_ex hst (qt_ldp_int evX asX inX) ?_; rintro v ⟨rfl, hI⟩) | (refine s_ex hst (qt_ldp_list evX asX inX) ?_; rintro v ⟨hvl, hv1⟩))) | (with_reducible refine Sl.k_field ?_; (((refine s_ex hst (qt_fieldp evX asX inX inX rfl) ?_); rintro v hp; (try simp only [Int.toNat_natCast, Int.toNat_natCast_add_one, Int.reduceToNat] at hp)))) | (with_reducible refine Sl.k_index ?_; (((refine s_ex hst (qt_index evX asX rfl inX inX omX omX) ?_); rintro v hp; (try simp only [Int.toNat_natCast, Int.toNat_natCast_add_one, Int.reduceToNat] at hp)))) | (with_reducible refine Sl.k_call ?_; (refine s_qt hst (by exact qt_len evX asX inX) ?_))) <;> (try refine nY ?_)) | (with_reducible refine Sl.gate rfl ?_; (go_step)))
          go_ret
          exact ⟨_, rfl, by rw [hE]; rfl, St.weaken hS1 hst⟩
        · have hsu : Hid (∀ h ∈ ev.2.1.take (i + 1), h.2.2.1 ≤ 20) := Lib.hid fun h hh => by
            rw [List.take_succ_eq_append_getElem hlt] at hh
            rcases List.mem_append.1 hh with h1 | h1
            · exact ht.out h h1
            · obtain rfl := List.mem_singleton.1 h1; omega
          repeat' (first | ((fail_if_success (go_big_may)); (go_step)) | ((first | (with_reducible refine Sl.k_load ?_; (first | (refine s_ex hst (qt_ldp_int evX asX inX) ?_; rintro v ⟨rfl, hI⟩) | (refine s_ex hst (qt_ldp_list evX asX inX) ?_; rintro v ⟨hvl, hv1⟩))) | (with_reducible refine Sl.k_field ?_; (((refine s_ex hst (qt_fieldp evX asX inX inX rfl) ?_); rintro v hp; (try simp only [Int.toNat_natCast, Int.toNat_natCast_add_one, Int.reduceToNat] at hp)))) | (with_reducible refine Sl.k_index ?_; (((refine s_ex hst (qt_index evX asX rfl inX inX omX omX) ?_); rintro v hp; (try simp only [Int.toNat_natCast, Int.toNat_natCast_add_one, Int.reduceToNat] at hp)))) | (with_reducible refine Sl.k_call ?_; (refine s_qt hst (by exact qt_len evX asX inX) ?_))) <;> (try refine nY ?_)) | (with_reducible refine Sl.gate rfl ?_; (go_step)))
          go_roundw
          case rel => exact ⟨i + 1, by omega, by go_num, hsu, hst⟩
          case measure => simp [intOf]; omega
      · obtain rfl : i = ev.2.1.length := by omega
        have hh := ht.out
        rw [List.take_length] at hh
        have hhd := Lib.hid hh
        clear ht hh
        repeat' (first | ((fail_if_success (go_big_may)); (go_step)) | ((first | (with_reducible refine Sl.k_load ?_; ((refine s_ex hst (qt_ldp_list evX asX inX) ?_; rintro v ⟨hvl, hv1⟩))) | (with_reducible refine Sl.k_field ?_; (((refine s_ex hst (qt_fieldp evX asX inX inX rfl) ?_); rintro v hp; (try simp only [Int.toNat_natCast, Int.toNat_natCast_add_one, Int.reduceToNat] at hp)))) | (with_reducible refine Sl.k_call ?_; (refine s_qt hst (by exact qt_len evX asX inX) ?_))) <;> (try refine nY ?_)) | (with_reducible refine Sl.gate rfl ?_; (go_step)))
        go_loopw [4] (fun v wr => ∃ i : Nat, i ≤ ev.2.2.1.length ∧ v = .int .i64 i ∧ Hid (∀ p ∈ ev.2.2.1.take i, p.2.2.2.1.length ≤ 10) ∧ St S1 M wr) (fun v _ => ev.2.2.1.length - (intOf v).toNat)
        case atStart => exact ⟨0, Nat.zero_le _, rfl, Lib.hid (by simp), hst⟩
        case round =>
          clear hst
          obtain ⟨i, hi, rfl, ht, hst⟩ := hrel
          by_cases hlt : i < ev.2.2.1.length
          · by_cases hc : 10 < ev.2.2.1[i].2.2.2.1.length
            · have hE := (hno (fun h => by have := h.2.2.2 _ (List.getElem_mem hlt); omega)).out
              repeat' (first | ((fail_if_success (go_big_may)); (go_step)) | ((first | (with_reducible refine Sl.k_load ?_; ((refine s_ex hst (qt_ldp_list evX asX inX) ?_; rintro v ⟨hvl, hv1⟩))) | (with_reducible refine Sl.k_field ?_; (((refine s_ex hst (qt_fieldp evX asX inX inX rfl) ?_); rintro v hp; (try simp only [Int.toNat_natCast, Int.toNat_natCast_add_one, Int.reduceToNat] at hp)))) | (with_reducible refine Sl.k_index ?_; (((refine s_ex hst (qt_index evX asX rfl inX inX omX omX) ?_); rintro v hp; (try simp only [Int.toNat_natCast, Int.toNat_natCast_add_one, Int.reduceToNat] at hp)))) | (with_reducible refine Sl.k_call ?_; (refine s_qt hst (by exact qt_len evX asX inX) ?_))) <;> (try refine nY ?_)) | (with_reducible refine Sl.gate rfl ?_; (go_step)))
              go_ret
              exact ⟨_, rfl, by rw [hE]; rfl, St.weaken hS1 hst⟩
            · have hsu : Hid (∀ p ∈ ev.2.2.1.take (i + 1), p.2.2.2.1.length ≤ 10) := Lib.hid fun h hh => by
                rw [List.take_succ_eq_append_getElem hlt] at hh
                rcases List.mem_append.1 hh with h1 | h1
                · exact ht.out h h1
                · obtain rfl := List.mem_singleton.1 h1; omega
              repeat' (first | ((fail_if_success (go_big_may)); (go_step)) | ((first | (with_reducible refine Sl.k_load ?_; ((refine s_ex hst (qt_ldp_list evX asX inX) ?_; rintro v ⟨hvl, hv1⟩))) | (with_reducible refine Sl.k_field ?_; (((refine s_ex hst (qt_fieldp evX asX inX inX rfl) ?_); rintro v hp; (try simp only [Int.toNat_natCast, Int.toNat_natCast_add_one, Int.reduceToNat] at hp)))) | (with_reducible refine Sl.k_index ?_; (((refine s_ex hst (qt_index evX asX rfl inX inX omX omX) ?_); rintro v hp; (try simp only [Int.toNat_natCast, Int.toNat_natCast_add_one, Int.reduceToNat] at hp)))) | (with_reducible refine Sl.k_call ?_; (refine s_qt hst (by exact qt_len evX asX inX) ?_))) <;> (try refine nY ?_)) | (with_reducible refine Sl.gate rfl ?_; (go_step)))
              go_roundw
              case rel => exact ⟨i + 1, by omega, by go_num, hsu, hst⟩
              case measure => simp [intOf]; omega
          · obtain rfl : i = ev.2.2.1.length := by omega
            have hh := ht.out
            rw [List.take_length] at hh
            have hE := (hyes ⟨hb1, hb2, hhd.out, hh⟩).out
            clear hh
            repeat' (first | ((fail_if_success (go_big_may)); (go_step)) | ((first | (with_reducible refine Sl.k_load ?_; ((refine s_ex hst (qt_ldp_list evX asX inX) ?_; rintro v ⟨hvl, hv1⟩))) | (with_reducible refine Sl.k_field ?_; (((refine s_ex hst (qt_fieldp evX asX inX inX rfl) ?_); rintro v hp; (try simp only [Int.toNat_natCast, Int.toNat_natCast_add_one, Int.reduceToNat] at hp)))) | (with_reducible refine Sl.k_call ?_; (refine s_qt hst (by exact qt_len evX asX inX) ?_))) <;> (try refine nY ?_)) | (with_reducible refine Sl.gate rfl ?_; (go_step)))
            go_ret
            exact ⟨_, rfl, by rw [hE]; rfl, St.weaken hS1 hst⟩
end Go.Proofs.YtgihhhdeoaplhaaDoor

/- Package evidence: a register read off a value; evidence in a box. -/
namespace Go.Proofs.YtgihhhdeoaplhaaDoor
set_option linter.unusedSimpArgs false
set_option linter.unusedVariables false
open Go.RowKit Go.Sl

theorem qt_regC {S : Snap} {M : List Chunk} {l : List Value} {x : Operand} {r : Rg} (hx : evF l x = rgV r) (k : RgOk r) : Qt Tryd.prog l (.field 40 x 0) S M (dgV r.1) :=
  qt_fieldV (z := 16) (agg := true) hx Tryd.underlying40 rfl ty23 (tk_rg k) (len_rg k)
theorem rsl_nilR {α : Type} [Rep α] {S : Snap} : RSl S (.slice none 0 0) ([] : List α) := .inl ⟨none, 0, rfl, rfl, by unfold maxLen; omega⟩
theorem evB_ofM {a0 a1 a2 a3 a4 a5 a6 a7 a8 a9 c0 c1 c2 c3 c4 c5 : UInt8} {S : Snap} {cl : List Value} {hs : List Hd} {ps : List Pn} (h : Rep.R S cl (((⟨[a0, a1, a2, a3, a4, a5, a6, a7, a8, a9, c0, c1, c2, c3, c4, c5]⟩ : Dg), hs, ps, ()) : Evd)) : ∃ u p, cl = evB a0 a1 a2 a3 a4 a5 a6 a7 a8 a9 c0 c1 c2 c3 c4 c5 u p ∧ RSl S u hs ∧ RSl S p ps := by
  obtain ⟨hl, h1, hl2, ⟨u, e2, h2⟩, hl3, ⟨p, e3, h3⟩, h4⟩ := h
  refine ⟨u, p, ?_, h2, h3⟩
  have e1 : cl.take 16 = u8s (⟨[a0, a1, a2, a3, a4, a5, a6, a7, a8, a9, c0, c1, c2, c3, c4, c5]⟩ : Dg).l := flatArrB.flat h1
  have e4 : ((cl.drop 16).drop 1).drop 1 = [] := h4
  have a1 : cl = cl.take 16 ++ ((cl.drop 16).take 1 ++ (((cl.drop 16).drop 1).take 1 ++ ((cl.drop 16).drop 1).drop 1)) := by
    rw [List.take_append_drop, List.take_append_drop, List.take_append_drop]
  have e2' : (cl.drop 16).take 1 = [u] := e2
  have e3' : ((cl.drop 16).drop 1).take 1 = [p] := e3
  rw [a1, e1, e2', e3', e4]
  rfl
theorem small_okR {S : Snap} {cs : List Value} {ev : Evd} (hR : Rep.R S cs ev) (h : smallM ev = true) : EvOk ev := by
  obtain ⟨h1, h2, h3, h4⟩ : smallP ev := of_decide_eq_true h
  have k1 := evd_hd hR
  have k2 := evd_pt hR
  refine ⟨fun h hh => ⟨k1 h hh, ?_⟩, fun p hp => ⟨(k2 p hp).1, (k2 p hp).2.1, (k2 p hp).2.2, ?_⟩, by omega, by omega⟩
  · have := h3 h hh
    omega
  · have := h4 p hp
    omega

end Go.Proofs.YtgihhhdeoaplhaaDoor

/- Package evidence: valid logs, walked. -/
--@u32
--@hgp
--@flat
--@dg
--@ex0
namespace Go.Proofs.YtgihhhdeoaplhaaDoor
set_option linter.unusedSimpArgs false
set_option linter.unusedVariables false
open Go.RowKit Go.Sl

def validP (log : List Ev) : Prop := ∀ e ∈ log, ∀ t ∈ e.2.2.1, (0 : Int) ≤ t ∧ t ≤ 3
instance (log : List Ev) : Decidable (validP log) := inferInstanceAs (Decidable (∀ e ∈ log, ∀ t ∈ e.2.2.1, (0 : Int) ≤ t ∧ t ≤ 3))
def validB (log : List Ev) : Bool := decide (validP log)
theorem validB_no {log : List Ev} {i k : Nat} (h : i < log.length) (hk : k < log[i].2.2.1.length) (hb : log[i].2.2.1[k] < 0 ∨ 3 < log[i].2.2.1[k]) : validB log = false :=
  decide_eq_false fun hv => by have := hv _ (List.getElem_mem h) _ (List.getElem_mem hk); omega
theorem validB_yes {log : List Ev} (h : validP log) : validB log = true := decide_eq_true h

set_option maxRecDepth 8000 in
set_option maxHeartbeats 2000000 in
theorem valid_c {S M} (w : World) (hst : St S M w) (vl : Value) (log : List Ev) (hl : RSl S vl log) (hm : log.length ≤ 1048576) (hok : ∀ e ∈ log, evOk e) :
    Rets Tryd.prog 19 [vl] w fun v w' => v = .bool (validB log) ∧ St S M w' := by
  unfold Rets
  have hl1 := hl.oneCell
  go_enter Tryd.func19, Tryd.ntmps19
  repeat' (first | go_skip | ((first | (with_reducible refine Sl.k_guard ?_; (first | (refine Sl.guard_yes rfl ?_) | (refine Sl.guard_no rfl ?_) | (refine Sl.guard_cases rfl ?_ ?_ <;> intro hg <;> first | (exfalso; simp only [decide_eq_true_eq, decide_eq_false_iff_not, Bool.not_false, Bool.not_true, beq_iff_eq, beq_eq_false_iff_ne, ne_eq] at hg; omega) | (simp only [hg, Bool.not_true, Bool.not_false])) <;> (try simp only [decide_eq_true_eq, decide_eq_false_iff_not, Bool.not_false, Bool.not_true, beq_iff_eq, beq_eq_false_iff_ne, bne_iff_ne, bne_eq_false_iff_eq, ne_eq] at hg))) | (with_reducible refine Sl.k_bin ?_; refine s_qt hst (by first | exact qt_xor32 rfl rfl | exact qt_and32 rfl rfl | exact qt_or32 rfl rfl | exact qt_add32 rfl rfl | exact qt_shl32 rfl rfl omX | exact qt_shr32 rfl rfl omX) ?_) | (with_reducible refine Sl.k_conv ?_; refine s_qt hst (by first | exact qt_conv832 rfl inX inX | exact qt_conv3264 rfl inX inX) ?_) | (with_reducible refine Sl.k_conv ?_; refine s_stringI hst evX asX inX inX inX ?_) | (with_reducible refine Sl.k_un ?_; refine s_qt hst (by exact qt_not32 rfl) ?_) | (with_reducible refine Sl.k_build ?_; refine s_qt hst (by exact qt_buildW inX inX inX rfl rfl (by simp only [List.map_cons, List.map_nil, evF, nth]; rfl) (by simp [Value.cells])) ?_) | (with_reducible refine Sl.k_indexV ?_; refine s_qt hst (by exact qt_indexW evX rfl inX inX omX omX omX) ?_)) <;> (try simp only [Int.toNat_natCast, List.set_cons_succ, List.set_cons_zero, vOf_true, vOf_false, List.drop_succ_cons, List.drop_zero, List.take_succ_cons, List.take_zero, putD, Int.toNat_zero, Int.reduceToNat, Nat.mul_one, Nat.zero_add, Nat.add_zero, Nat.reduceMul, Nat.reduceAdd, Nat.zero_mul, Int.reduceSub, Int.reduceAdd, Int.reduceMul, Int.reduceNeg, Bool.not_true, Bool.not_false])) | ((fail_if_success (go_big_may)); (first | go_skip | go_guarded | go_step)) | ((first | (with_reducible refine Sl.k_load ?_; (first | refine s_qt hst (by first | exact qt_loadA evX BoxIn.h inX rfX | exact qt_ldp_flat evX asX inX inX rfl | exact qt_ldW evX BoxIn.h inX omX | exact qt_ldU evX asX SlIn.h inX omX | exact qt_ldp_u32 evX asX inX | exact qt_loadD evX BoxIn.h inX inX | exact qt_load rfl _ BoxIn.h inX rfl rfl) ?_ | (refine s_ex hst (qt_ldp_int evX asX inX) ?_; rintro v ⟨rfl, hI⟩) | refine s_qt hst (by first | exact qt_ldp_u8 evX asX inX | exact qt_ldp_bool evX asX inX) ?_ | (refine s_ex hst (qt_ldp_str evX asX inX) ?_; rintro v ⟨rfl, hs⟩) | (refine s_ex hst (qt_ldp_list evX asX inX) ?_; rintro v ⟨hvl, hv1⟩) | (refine s_ex hst (qt_ldp evX asX inX) ?_; rintro v ⟨cl, rfl, hcl⟩) | refine s_qt hst (by first | exact qt_ldB evX asX SlIn.h inX omX | exact qt_ldI evX asX SlIn.h inX omX | exact qt_ld2 evX asX SlIn.h inX omX | exact qt_load_own evX asX SlIn.h inX rfl (by simp <;> omega) | exact qt_load rfl _ asX inX rfl rfl) ?_)) | (with_reducible refine Sl.k_field ?_; (first | refine s_qt hst (qt_field rfl inX) ?_ | ((first | refine s_ex hst (qt_fieldp evX asX inX inX rfl) ?_ | refine s_ex hst (qt_field_own evX asX inX) ?_); rintro v hp; (try simp only [Int.toNat_natCast, Int.toNat_natCast_add_one, Int.reduceToNat] at hp)))) | (with_reducible refine Sl.k_index ?_; (first | refine s_qt hst (qt_indexA rfl rfl inX inX omX omX) ?_ | ((first | refine s_ex hst (qt_indexP0 evX asX rfl inX inX) ?_ | refine s_ex hst (qt_indexP1 evX asX rfl inX inX) ?_ | refine s_ex hst (qt_index evX asX rfl inX inX omX omX) ?_ | refine s_ex hst (qt_indexAp evX asX rfl inX inX rfl omX omX) ?_ | refine s_ex hst (qt_index_own hst evX SlIn.h rfl inX inX omX omX) ?_); rintro v hp; (try simp only [Int.toNat_natCast, Int.toNat_natCast_add_one, Int.reduceToNat] at hp)))) | (with_reducible refine Sl.k_call ?_; (first | refine s_qt hst (by first | exact qt_len evX asX inX | exact qt_len_str evX inX | exact qt_len_own evX SlIn.h inX | exact qt_max rfl rfl | exact qt_min rfl rfl) ?_))) <;> (try simp only [Int.toNat_natCast, List.set_cons_succ, List.set_cons_zero, vOf_true, vOf_false, List.drop_succ_cons, List.drop_zero, List.take_succ_cons, List.take_zero, putD, Int.toNat_zero, Int.reduceToNat, Nat.mul_one, Nat.zero_add, Nat.add_zero, Nat.reduceMul, Nat.reduceAdd, Nat.zero_mul, Int.reduceSub, Int.reduceAdd, Int.reduceMul, Int.reduceNeg, Bool.not_true, Bool.not_false])) | (with_reducible refine Sl.gate rfl ?_; (first | go_skip | go_guarded | go_step)) | ((first | ((first | (with_reducible refine Sl.k_store ?_; (first | refine s_stW hst rfl BoxIn.h inX evX omX ?_ | refine s_stU hst evX asX SlIn.h inX evX omX ?_ | refine s_stD hst rfl BoxIn.h inX evX inX lenX ?_ | refine s_stR hst rfl BoxIn.h evX asX inX rfl rfl ?_ | refine s_store hst rfl _ BoxIn.h inX evX rfl lenOk oneOk (by simp) ?_ | refine s_st1 hst rfl BoxIn.h evX asX inX (by simp) ?_ | refine s_stB hst evX asX SlIn.h inX evX omX ?_ | refine s_stI hst evX asX SlIn.h inX evX omX ?_ | refine s_st2 hst evX asX SlIn.h inX evX omX ?_); clear hst; intro w hst) | (refine s_box hst evX rfl ?_; clear hst; intro bx w hst) | (refine s_alloc hst inX ?_; clear hst; intro bk w hst)))) <;> (try simp only [Int.toNat_natCast, List.set_cons_succ, List.set_cons_zero, vOf_true, vOf_false, List.drop_succ_cons, List.drop_zero, List.take_succ_cons, List.take_zero, putD, Int.toNat_zero, Int.reduceToNat, Nat.mul_one, Nat.zero_add, Nat.add_zero, Nat.reduceMul, Nat.reduceAdd, Nat.zero_mul, Int.reduceSub, Int.reduceAdd, Int.reduceMul, Int.reduceNeg, Bool.not_true, Bool.not_false]) <;> (try simp only [List.set_cons_succ, List.set_cons_zero, List.drop_succ_cons, List.drop_zero, List.take_succ_cons, List.take_zero, List.nil_append, List.cons_append, List.append_nil, Value.cells, List.eraseIdx_cons_zero, List.eraseIdx_cons_succ, Nat.zero_add, Nat.add_zero, List.flatten_cons, List.flatten_nil, List.map_cons, List.map_nil] at hst)))
  go_loopw [3, 4] (fun v _ wr => ∃ i : Nat, i ≤ log.length ∧ v = .int .i64 i ∧ Hid (∀ e ∈ log.take i, ∀ t ∈ e.2.2.1, (0 : Int) ≤ t ∧ t ≤ 3) ∧ St S M wr) (fun v _ _ => log.length - (intOf v).toNat)
  case atStart => exact ⟨0, Nat.zero_le _, rfl, Lib.hid (by simp), hst⟩
  case round =>
    clear hst
    obtain ⟨i, hi, rfl, ht, hst⟩ := hrel
    by_cases hlt : i < log.length
    · obtain ⟨e1, e2, e3⟩ := hok _ (List.getElem_mem hlt)
      have hno := fun {k : Nat} (hk : k < log[i].2.2.1.length) hb => Lib.hid (validB_no hlt hk hb)
      repeat' (first | go_skip | ((first | (with_reducible refine Sl.k_guard ?_; (first | (refine Sl.guard_yes rfl ?_) | (refine Sl.guard_no rfl ?_) | (refine Sl.guard_cases rfl ?_ ?_ <;> intro hg <;> first | (exfalso; simp only [decide_eq_true_eq, decide_eq_false_iff_not, Bool.not_false, Bool.not_true, beq_iff_eq, beq_eq_false_iff_ne, ne_eq] at hg; omega) | (simp only [hg, Bool.not_true, Bool.not_false])) <;> (try simp only [decide_eq_true_eq, decide_eq_false_iff_not, Bool.not_false, Bool.not_true, beq_iff_eq, beq_eq_false_iff_ne, bne_iff_ne, bne_eq_false_iff_eq, ne_eq] at hg))) | (with_reducible refine Sl.k_bin ?_; refine s_qt hst (by first | exact qt_xor32 rfl rfl | exact qt_and32 rfl rfl | exact qt_or32 rfl rfl | exact qt_add32 rfl rfl | exact qt_shl32 rfl rfl omX | exact qt_shr32 rfl rfl omX) ?_) | (with_reducible refine Sl.k_conv ?_; refine s_qt hst (by first | exact qt_conv832 rfl inX inX | exact qt_conv3264 rfl inX inX) ?_) | (with_reducible refine Sl.k_conv ?_; refine s_stringI hst evX asX inX inX inX ?_) | (with_reducible refine Sl.k_un ?_; refine s_qt hst (by exact qt_not32 rfl) ?_) | (with_reducible refine Sl.k_build ?_; refine s_qt hst (by exact qt_buildW inX inX inX rfl rfl (by simp only [List.map_cons, List.map_nil, evF, nth]; rfl) (by simp [Value.cells])) ?_) | (with_reducible refine Sl.k_indexV ?_; refine s_qt hst (by exact qt_indexW evX rfl inX inX omX omX omX) ?_)) <;> (try simp only [Int.toNat_natCast, List.set_cons_succ, List.set_cons_zero, vOf_true, vOf_false, List.drop_succ_cons, List.drop_zero, List.take_succ_cons, List.take_zero, putD, Int.toNat_zero, Int.reduceToNat, Nat.mul_one, Nat.zero_add, Nat.add_zero, Nat.reduceMul, Nat.reduceAdd, Nat.zero_mul, Int.reduceSub, Int.reduceAdd, Int.reduceMul, Int.reduceNeg, Bool.not_true, Bool.not_false])) | ((fail_if_success (go_big_may)); (first | go_skip | go_guarded | go_step)) | ((first | (with_reducible refine Sl.k_load ?_; (first | refine s_qt hst (by first | exact qt_loadA evX BoxIn.h inX rfX | exact qt_ldp_flat evX asX inX inX rfl | exact qt_ldW evX BoxIn.h inX omX | exact qt_ldU evX asX SlIn.h inX omX | exact qt_ldp_u32 evX asX inX | exact qt_loadD evX BoxIn.h inX inX | exact qt_load rfl _ BoxIn.h inX rfl rfl) ?_ | (refine s_ex hst (qt_ldp_int evX asX inX) ?_; rintro v ⟨rfl, hI⟩) | refine s_qt hst (by first | exact qt_ldp_u8 evX asX inX | exact qt_ldp_bool evX asX inX) ?_ | (refine s_ex hst (qt_ldp_str evX asX inX) ?_; rintro v ⟨rfl, hs⟩) | (refine s_ex hst (qt_ldp_list evX asX inX) ?_; rintro v ⟨hvl, hv1⟩) | (refine s_ex hst (qt_ldp evX asX inX) ?_; rintro v ⟨cl, rfl, hcl⟩) | refine s_qt hst (by first | exact qt_ldB evX asX SlIn.h inX omX | exact qt_ldI evX asX SlIn.h inX omX | exact qt_ld2 evX asX SlIn.h inX omX | exact qt_load_own evX asX SlIn.h inX rfl (by simp <;> omega) | exact qt_load rfl _ asX inX rfl rfl) ?_)) | (with_reducible refine Sl.k_field ?_; (first | refine s_qt hst (qt_field rfl inX) ?_ | ((first | refine s_ex hst (qt_fieldp evX asX inX inX rfl) ?_ | refine s_ex hst (qt_field_own evX asX inX) ?_); rintro v hp; (try simp only [Int.toNat_natCast, Int.toNat_natCast_add_one, Int.reduceToNat] at hp)))) | (with_reducible refine Sl.k_index ?_; (first | refine s_qt hst (qt_indexA rfl rfl inX inX omX omX) ?_ | ((first | refine s_ex hst (qt_indexP0 evX asX rfl inX inX) ?_ | refine s_ex hst (qt_indexP1 evX asX rfl inX inX) ?_ | refine s_ex hst (qt_index evX asX rfl inX inX omX omX) ?_ | refine s_ex hst (qt_indexAp evX asX rfl inX inX rfl omX omX) ?_ | refine s_ex hst (qt_index_own hst evX SlIn.h rfl inX inX omX omX) ?_); rintro v hp; (try simp only [Int.toNat_natCast, Int.toNat_natCast_add_one, Int.reduceToNat] at hp)))) | (with_reducible refine Sl.k_call ?_; (first | refine s_qt hst (by first | exact qt_len evX asX inX | exact qt_len_str evX inX | exact qt_len_own evX SlIn.h inX | exact qt_max rfl rfl | exact qt_min rfl rfl) ?_))) <;> (try simp only [Int.toNat_natCast, List.set_cons_succ, List.set_cons_zero, vOf_true, vOf_false, List.drop_succ_cons, List.drop_zero, List.take_succ_cons, List.take_zero, putD, Int.toNat_zero, Int.reduceToNat, Nat.mul_one, Nat.zero_add, Nat.add_zero, Nat.reduceMul, Nat.reduceAdd, Nat.zero_mul, Int.reduceSub, Int.reduceAdd, Int.reduceMul, Int.reduceNeg, Bool.not_true, Bool.not_false])) | (with_reducible refine Sl.gate rfl ?_; (first | go_skip | go_guarded | go_step)) | ((first | ((first | (with_reducible refine Sl.k_store ?_; (first | refine s_stW hst rfl BoxIn.h inX evX omX ?_ | refine s_stU hst evX asX SlIn.h inX evX omX ?_ | refine s_stD hst rfl BoxIn.h inX evX inX lenX ?_ | refine s_stR hst rfl BoxIn.h evX asX inX rfl rfl ?_ | refine s_store hst rfl _ BoxIn.h inX evX rfl lenOk oneOk (by simp) ?_ | refine s_st1 hst rfl BoxIn.h evX asX inX (by simp) ?_ | refine s_stB hst evX asX SlIn.h inX evX omX ?_ | refine s_stI hst evX asX SlIn.h inX evX omX ?_ | refine s_st2 hst evX asX SlIn.h inX evX omX ?_); clear hst; intro w hst) | (refine s_box hst evX rfl ?_; clear hst; intro bx w hst) | (refine s_alloc hst inX ?_; clear hst; intro bk w hst)))) <;> (try simp only [Int.toNat_natCast, List.set_cons_succ, List.set_cons_zero, vOf_true, vOf_false, List.drop_succ_cons, List.drop_zero, List.take_succ_cons, List.take_zero, putD, Int.toNat_zero, Int.reduceToNat, Nat.mul_one, Nat.zero_add, Nat.add_zero, Nat.reduceMul, Nat.reduceAdd, Nat.zero_mul, Int.reduceSub, Int.reduceAdd, Int.reduceMul, Int.reduceNeg, Bool.not_true, Bool.not_false]) <;> (try simp only [List.set_cons_succ, List.set_cons_zero, List.drop_succ_cons, List.drop_zero, List.take_succ_cons, List.take_zero, List.nil_append, List.cons_append, List.append_nil, Value.cells, List.eraseIdx_cons_zero, List.eraseIdx_cons_succ, Nat.zero_add, Nat.add_zero, List.flatten_cons, List.flatten_nil, List.map_cons, List.map_nil] at hst)))
      go_loopw [4] (fun v wr => ∃ k : Nat, k ≤ log[i].2.2.1.length ∧ v = .int .i64 k ∧ Hid (∀ t ∈ log[i].2.2.1.take k, (0 : Int) ≤ t ∧ t ≤ 3) ∧ St S M wr) (fun v _ => log[i].2.2.1.length - (intOf v).toNat)
      case atStart => exact ⟨0, Nat.zero_le _, rfl, Lib.hid (by simp), hst⟩
      case round =>
        clear hst
        obtain ⟨k, hk, rfl, hs, hst⟩ := hrel
        by_cases hkl : k < log[i].2.2.1.length
        · by_cases hb : log[i].2.2.1[k] < 0 ∨ 3 < log[i].2.2.1[k]
          · have hE := (hno hkl hb).out
            repeat' (first | go_skip | ((first | (with_reducible refine Sl.k_guard ?_; (first | (refine Sl.guard_yes rfl ?_) | (refine Sl.guard_no rfl ?_) | (refine Sl.guard_cases rfl ?_ ?_ <;> intro hg <;> first | (exfalso; simp only [decide_eq_true_eq, decide_eq_false_iff_not, Bool.not_false, Bool.not_true, beq_iff_eq, beq_eq_false_iff_ne, ne_eq] at hg; omega) | (simp only [hg, Bool.not_true, Bool.not_false])) <;> (try simp only [decide_eq_true_eq, decide_eq_false_iff_not, Bool.not_false, Bool.not_true, beq_iff_eq, beq_eq_false_iff_ne, bne_iff_ne, bne_eq_false_iff_eq, ne_eq] at hg))) | (with_reducible refine Sl.k_bin ?_; refine s_qt hst (by first | exact qt_xor32 rfl rfl | exact qt_and32 rfl rfl | exact qt_or32 rfl rfl | exact qt_add32 rfl rfl | exact qt_shl32 rfl rfl omX | exact qt_shr32 rfl rfl omX) ?_) | (with_reducible refine Sl.k_conv ?_; refine s_qt hst (by first | exact qt_conv832 rfl inX inX | exact qt_conv3264 rfl inX inX) ?_) | (with_reducible refine Sl.k_conv ?_; refine s_stringI hst evX asX inX inX inX ?_) | (with_reducible refine Sl.k_un ?_; refine s_qt hst (by exact qt_not32 rfl) ?_) | (with_reducible refine Sl.k_build ?_; refine s_qt hst (by exact qt_buildW inX inX inX rfl rfl (by simp only [List.map_cons, List.map_nil, evF, nth]; rfl) (by simp [Value.cells])) ?_) | (with_reducible refine Sl.k_indexV ?_; refine s_qt hst (by exact qt_indexW evX rfl inX inX omX omX omX) ?_)) <;> (try simp only [Int.toNat_natCast, List.set_cons_succ, List.set_cons_zero, vOf_true, vOf_false, List.drop_succ_cons, List.drop_zero, List.take_succ_cons, List.take_zero, putD, Int.toNat_zero, Int.reduceToNat, Nat.mul_one, Nat.zero_add, Nat.add_zero, Nat.reduceMul, Nat.reduceAdd, Nat.zero_mul, Int.reduceSub, Int.reduceAdd, Int.reduceMul, Int.reduceNeg, Bool.not_true, Bool.not_false])) | ((fail_if_success (go_big_may)); (first | go_skip | go_guarded | go_step)) | ((first | (with_reducible refine Sl.k_load ?_; (first | refine s_qt hst (by first | exact qt_loadA evX BoxIn.h inX rfX | exact qt_ldp_flat evX asX inX inX rfl | exact qt_ldW evX BoxIn.h inX omX | exact qt_ldU evX asX SlIn.h inX omX | exact qt_ldp_u32 evX asX inX | exact qt_loadD evX BoxIn.h inX inX | exact qt_load rfl _ BoxIn.h inX rfl rfl) ?_ | (refine s_ex hst (qt_ldp_int evX asX inX) ?_; rintro v ⟨rfl, hI⟩) | refine s_qt hst (by first | exact qt_ldp_u8 evX asX inX | exact qt_ldp_bool evX asX inX) ?_ | (refine s_ex hst (qt_ldp_str evX asX inX) ?_; rintro v ⟨rfl, hs⟩) | (refine s_ex hst (qt_ldp_list evX asX inX) ?_; rintro v ⟨hvl, hv1⟩) | (refine s_ex hst (qt_ldp evX asX inX) ?_; rintro v ⟨cl, rfl, hcl⟩) | refine s_qt hst (by first | exact qt_ldB evX asX SlIn.h inX omX | exact qt_ldI evX asX SlIn.h inX omX | exact qt_ld2 evX asX SlIn.h inX omX | exact qt_load_own evX asX SlIn.h inX rfl (by simp <;> omega) | exact qt_load rfl _ asX inX rfl rfl) ?_)) | (with_reducible refine Sl.k_field ?_; (first | refine s_qt hst (qt_field rfl inX) ?_ | ((first | refine s_ex hst (qt_fieldp evX asX inX inX rfl) ?_ | refine s_ex hst (qt_field_own evX asX inX) ?_); rintro v hp; (try simp only [Int.toNat_natCast, Int.toNat_natCast_add_one, Int.reduceToNat] at hp)))) | (with_reducible refine Sl.k_index ?_; (first | refine s_qt hst (qt_indexA rfl rfl inX inX omX omX) ?_ | ((first | refine s_ex hst (qt_indexP0 evX asX rfl inX inX) ?_ | refine s_ex hst (qt_indexP1 evX asX rfl inX inX) ?_ | refine s_ex hst (qt_index evX asX rfl inX inX omX omX) ?_ | refine s_ex hst (qt_indexAp evX asX rfl inX inX rfl omX omX) ?_ | refine s_ex hst (qt_index_own hst evX SlIn.h rfl inX inX omX omX) ?_); rintro v hp; (try simp only [Int.toNat_natCast, Int.toNat_natCast_add_one, Int.reduceToNat] at hp)))) | (with_reducible refine Sl.k_call ?_; (first | refine s_qt hst (by first | exact qt_len evX asX inX | exact qt_len_str evX inX | exact qt_len_own evX SlIn.h inX | exact qt_max rfl rfl | exact qt_min rfl rfl) ?_))) <;> (try simp only [Int.toNat_natCast, List.set_cons_succ, List.set_cons_zero, vOf_true, vOf_false, List.drop_succ_cons, List.drop_zero, List.take_succ_cons, List.take_zero, putD, Int.toNat_zero, Int.reduceToNat, Nat.mul_one, Nat.zero_add, Nat.add_zero, Nat.reduceMul, Nat.reduceAdd, Nat.zero_mul, Int.reduceSub, Int.reduceAdd, Int.reduceMul, Int.reduceNeg, Bool.not_true, Bool.not_false])) | (with_reducible refine Sl.gate rfl ?_; (first | go_skip | go_guarded | go_step)) | ((first | ((first | (with_reducible refine Sl.k_store ?_; (first | refine s_stW hst rfl BoxIn.h inX evX omX ?_ | refine s_stU hst evX asX SlIn.h inX evX omX ?_ | refine s_stD hst rfl BoxIn.h inX evX inX lenX ?_ | refine s_stR hst rfl BoxIn.h evX asX inX rfl rfl ?_ | refine s_store hst rfl _ BoxIn.h inX evX rfl lenOk oneOk (by simp) ?_ | refine s_st1 hst rfl BoxIn.h evX asX inX (by simp) ?_ | refine s_stB hst evX asX SlIn.h inX evX omX ?_ | refine s_stI hst evX asX SlIn.h inX evX omX ?_ | refine s_st2 hst evX asX SlIn.h inX evX omX ?_); clear hst; intro w hst) | (refine s_box hst evX rfl ?_; clear hst; intro bx w hst) | (refine s_alloc hst inX ?_; clear hst; intro bk w hst)))) <;> (try simp only [Int.toNat_natCast, List.set_cons_succ, List.set_cons_zero, vOf_true, vOf_false, List.drop_succ_cons, List.drop_zero, List.take_succ_cons, List.take_zero, putD, Int.toNat_zero, Int.reduceToNat, Nat.mul_one, Nat.zero_add, Nat.add_zero, Nat.reduceMul, Nat.reduceAdd, Nat.zero_mul, Int.reduceSub, Int.reduceAdd, Int.reduceMul, Int.reduceNeg, Bool.not_true, Bool.not_false]) <;> (try simp only [List.set_cons_succ, List.set_cons_zero, List.drop_succ_cons, List.drop_zero, List.take_succ_cons, List.take_zero, List.nil_append, List.cons_append, List.append_nil, Value.cells, List.eraseIdx_cons_zero, List.eraseIdx_cons_succ, Nat.zero_add, Nat.add_zero, List.flatten_cons, List.flatten_nil, List.map_cons, List.map_nil] at hst)))
            all_goals (go_ret; exact ⟨_, rfl, by rw [hE]; rfl, hst⟩)
          · have hb1 : 0 ≤ log[i].2.2.1[k] ∧ log[i].2.2.1[k] ≤ 3 := by omega
            have hsu : Hid (∀ t ∈ log[i].2.2.1.take (k + 1), (0 : Int) ≤ t ∧ t ≤ 3) := Lib.hid fun t ht => by
              rw [List.take_succ_eq_append_getElem hkl] at ht
              rcases List.mem_append.1 ht with h | h
              · exact hs.out t h
              · obtain rfl := List.mem_singleton.1 h; exact hb1
            repeat' (first | go_skip | ((first | (with_reducible refine Sl.k_guard ?_; (first | (refine Sl.guard_yes rfl ?_) | (refine Sl.guard_no rfl ?_) | (refine Sl.guard_cases rfl ?_ ?_ <;> intro hg <;> first | (exfalso; simp only [decide_eq_true_eq, decide_eq_false_iff_not, Bool.not_false, Bool.not_true, beq_iff_eq, beq_eq_false_iff_ne, ne_eq] at hg; omega) | (simp only [hg, Bool.not_true, Bool.not_false])) <;> (try simp only [decide_eq_true_eq, decide_eq_false_iff_not, Bool.not_false, Bool.not_true, beq_iff_eq, beq_eq_false_iff_ne, bne_iff_ne, bne_eq_false_iff_eq, ne_eq] at hg))) | (with_reducible refine Sl.k_bin ?_; refine s_qt hst (by first | exact qt_xor32 rfl rfl | exact qt_and32 rfl rfl | exact qt_or32 rfl rfl | exact qt_add32 rfl rfl | exact qt_shl32 rfl rfl omX | exact qt_shr32 rfl rfl omX) ?_) | (with_reducible refine Sl.k_conv ?_; refine s_qt hst (by first | exact qt_conv832 rfl inX inX | exact qt_conv3264 rfl inX inX) ?_) | (with_reducible refine Sl.k_conv ?_; refine s_stringI hst evX asX inX inX inX ?_) | (with_reducible refine Sl.k_un ?_; refine s_qt hst (by exact qt_not32 rfl) ?_) | (with_reducible refine Sl.k_build ?_; refine s_qt hst (by exact qt_buildW inX inX inX rfl rfl (by simp only [List.map_cons, List.map_nil, evF, nth]; rfl) (by simp [Value.cells])) ?_) | (with_reducible refine Sl.k_indexV ?_; refine s_qt hst (by exact qt_indexW evX rfl inX inX omX omX omX) ?_)) <;> (try simp only [Int.toNat_natCast, List.set_cons_succ, List.set_cons_zero, vOf_true, vOf_false, List.drop_succ_cons, List.drop_zero, List.take_succ_cons, List.take_zero, putD, Int.toNat_zero, Int.reduceToNat, Nat.mul_one, Nat.zero_add, Nat.add_zero, Nat.reduceMul, Nat.reduceAdd, Nat.zero_mul, Int.reduceSub, Int.reduceAdd, Int.reduceMul, Int.reduceNeg, Bool.not_true, Bool.not_false])) | ((fail_if_success (go_big_may)); (first | go_skip | go_guarded | go_step)) | ((first | (with_reducible refine Sl.k_load ?_; (first | refine s_qt hst (by first | exact qt_loadA evX BoxIn.h inX rfX | exact qt_ldp_flat evX asX inX inX rfl | exact qt_ldW evX BoxIn.h inX omX | exact qt_ldU evX asX SlIn.h inX omX | exact qt_ldp_u32 evX asX inX | exact qt_loadD evX BoxIn.h inX inX | exact qt_load rfl _ BoxIn.h inX rfl rfl) ?_ | (refine s_ex hst (qt_ldp_int evX asX inX) ?_; rintro v ⟨rfl, hI⟩) | refine s_qt hst (by first | exact qt_ldp_u8 evX asX inX | exact qt_ldp_bool evX asX inX) ?_ | (refine s_ex hst (qt_ldp_str evX asX inX) ?_; rintro v ⟨rfl, hs⟩) | (refine s_ex hst (qt_ldp_list evX asX inX) ?_; rintro v ⟨hvl, hv1⟩) | (refine s_ex hst (qt_ldp evX asX inX) ?_; rintro v ⟨cl, rfl, hcl⟩) | refine s_qt hst (by first | exact qt_ldB evX asX SlIn.h inX omX | exact qt_ldI evX asX SlIn.h inX omX | exact qt_ld2 evX asX SlIn.h inX omX | exact qt_load_own evX asX SlIn.h inX rfl (by simp <;> omega) | exact qt_load rfl _ asX inX rfl rfl) ?_)) | (with_reducible refine Sl.k_field ?_; (first | refine s_qt hst (qt_field rfl inX) ?_ | ((first | refine s_ex hst (qt_fieldp evX asX inX inX rfl) ?_ | refine s_ex hst (qt_field_own evX asX inX) ?_); rintro v hp; (try simp only [Int.toNat_natCast, Int.toNat_natCast_add_one, Int.reduceToNat] at hp)))) | (with_reducible refine Sl.k_index ?_; (first | refine s_qt hst (qt_indexA rfl rfl inX inX omX omX) ?_ | ((first | refine s_ex hst (qt_indexP0 evX asX rfl inX inX) ?_ | refine s_ex hst (qt_indexP1 evX asX rfl inX inX) ?_ | refine s_ex hst (qt_index evX asX rfl inX inX omX omX) ?_ | refine s_ex hst (qt_indexAp evX asX rfl inX inX rfl omX omX) ?_ | refine s_ex hst (qt_index_own hst evX SlIn.h rfl inX inX omX omX) ?_); rintro v hp; (try simp only [Int.toNat_natCast, Int.toNat_natCast_add_one, Int.reduceToNat] at hp)))) | (with_reducible refine Sl.k_call ?_; (first | refine s_qt hst (by first | exact qt_len evX asX inX | exact qt_len_str evX inX | exact qt_len_own evX SlIn.h inX | exact qt_max rfl rfl | exact qt_min rfl rfl) ?_))) <;> (try simp only [Int.toNat_natCast, List.set_cons_succ, List.set_cons_zero, vOf_true, vOf_false, List.drop_succ_cons, List.drop_zero, List.take_succ_cons, List.take_zero, putD, Int.toNat_zero, Int.reduceToNat, Nat.mul_one, Nat.zero_add, Nat.add_zero, Nat.reduceMul, Nat.reduceAdd, Nat.zero_mul, Int.reduceSub, Int.reduceAdd, Int.reduceMul, Int.reduceNeg, Bool.not_true, Bool.not_false])) | (with_reducible refine Sl.gate rfl ?_; (first | go_skip | go_guarded | go_step)) | ((first | ((first | (with_reducible refine Sl.k_store ?_; (first | refine s_stW hst rfl BoxIn.h inX evX omX ?_ | refine s_stU hst evX asX SlIn.h inX evX omX ?_ | refine s_stD hst rfl BoxIn.h inX evX inX lenX ?_ | refine s_stR hst rfl BoxIn.h evX asX inX rfl rfl ?_ | refine s_store hst rfl _ BoxIn.h inX evX rfl lenOk oneOk (by simp) ?_ | refine s_st1 hst rfl BoxIn.h evX asX inX (by simp) ?_ | refine s_stB hst evX asX SlIn.h inX evX omX ?_ | refine s_stI hst evX asX SlIn.h inX evX omX ?_ | refine s_st2 hst evX asX SlIn.h inX evX omX ?_); clear hst; intro w hst) | (refine s_box hst evX rfl ?_; clear hst; intro bx w hst) | (refine s_alloc hst inX ?_; clear hst; intro bk w hst)))) <;> (try simp only [Int.toNat_natCast, List.set_cons_succ, List.set_cons_zero, vOf_true, vOf_false, List.drop_succ_cons, List.drop_zero, List.take_succ_cons, List.take_zero, putD, Int.toNat_zero, Int.reduceToNat, Nat.mul_one, Nat.zero_add, Nat.add_zero, Nat.reduceMul, Nat.reduceAdd, Nat.zero_mul, Int.reduceSub, Int.reduceAdd, Int.reduceMul, Int.reduceNeg, Bool.not_true, Bool.not_false]) <;> (try simp only [List.set_cons_succ, List.set_cons_zero, List.drop_succ_cons, List.drop_zero, List.take_succ_cons, List.take_zero, List.nil_append, List.cons_append, List.append_nil, Value.cells, List.eraseIdx_cons_zero, List.eraseIdx_cons_succ, Nat.zero_add, Nat.add_zero, List.flatten_cons, List.flatten_nil, List.map_cons, List.map_nil] at hst)))
            go_roundw
            case rel => exact ⟨k + 1, by omega, by go_num, hsu, hst⟩
            case measure => simp [intOf]; omega
        · obtain rfl : k = log[i].2.2.1.length := by omega
          have hsu : Hid (∀ e ∈ log.take (i + 1), ∀ t ∈ e.2.2.1, (0 : Int) ≤ t ∧ t ≤ 3) := Lib.hid fun e he => by
            have h0 := hs.out
            rw [List.take_length] at h0
            rw [List.take_succ_eq_append_getElem hlt] at he
            rcases List.mem_append.1 he with h | h
            · exact ht.out e h
            · obtain rfl := List.mem_singleton.1 h; exact h0
          repeat' (first | go_skip | ((first | (with_reducible refine Sl.k_guard ?_; (first | (refine Sl.guard_yes rfl ?_) | (refine Sl.guard_no rfl ?_) | (refine Sl.guard_cases rfl ?_ ?_ <;> intro hg <;> first | (exfalso; simp only [decide_eq_true_eq, decide_eq_false_iff_not, Bool.not_false, Bool.not_true, beq_iff_eq, beq_eq_false_iff_ne, ne_eq] at hg; omega) | (simp only [hg, Bool.not_true, Bool.not_false])) <;> (try simp only [decide_eq_true_eq, decide_eq_false_iff_not, Bool.not_false, Bool.not_true, beq_iff_eq, beq_eq_false_iff_ne, bne_iff_ne, bne_eq_false_iff_eq, ne_eq] at hg))) | (with_reducible refine Sl.k_bin ?_; refine s_qt hst (by first | exact qt_xor32 rfl rfl | exact qt_and32 rfl rfl | exact qt_or32 rfl rfl | exact qt_add32 rfl rfl | exact qt_shl32 rfl rfl omX | exact qt_shr32 rfl rfl omX) ?_) | (with_reducible refine Sl.k_conv ?_; refine s_qt hst (by first | exact qt_conv832 rfl inX inX | exact qt_conv3264 rfl inX inX) ?_) | (with_reducible refine Sl.k_conv ?_; refine s_stringI hst evX asX inX inX inX ?_) | (with_reducible refine Sl.k_un ?_; refine s_qt hst (by exact qt_not32 rfl) ?_) | (with_reducible refine Sl.k_build ?_; refine s_qt hst (by exact qt_buildW inX inX inX rfl rfl (by simp only [List.map_cons, List.map_nil, evF, nth]; rfl) (by simp [Value.cells])) ?_) | (with_reducible refine Sl.k_indexV ?_; refine s_qt hst (by exact qt_indexW evX rfl inX inX omX omX omX) ?_)) <;> (try simp only [Int.toNat_natCast, List.set_cons_succ, List.set_cons_zero, vOf_true, vOf_false, List.drop_succ_cons, List.drop_zero, List.take_succ_cons, List.take_zero, putD, Int.toNat_zero, Int.reduceToNat, Nat.mul_one, Nat.zero_add, Nat.add_zero, Nat.reduceMul, Nat.reduceAdd, Nat.zero_mul, Int.reduceSub, Int.reduceAdd, Int.reduceMul, Int.reduceNeg, Bool.not_true, Bool.not_false])) | ((fail_if_success (go_big_may)); (first | go_skip | go_guarded | go_step)) | ((first | (with_reducible refine Sl.k_load ?_; (first | refine s_qt hst (by first | exact qt_loadA evX BoxIn.h inX rfX | exact qt_ldp_flat evX asX inX inX rfl | exact qt_ldW evX BoxIn.h inX omX | exact qt_ldU evX asX SlIn.h inX omX | exact qt_ldp_u32 evX asX inX | exact qt_loadD evX BoxIn.h inX inX | exact qt_load rfl _ BoxIn.h inX rfl rfl) ?_ | (refine s_ex hst (qt_ldp_int evX asX inX) ?_; rintro v ⟨rfl, hI⟩) | refine s_qt hst (by first | exact qt_ldp_u8 evX asX inX | exact qt_ldp_bool evX asX inX) ?_ | (refine s_ex hst (qt_ldp_str evX asX inX) ?_; rintro v ⟨rfl, hs⟩) | (refine s_ex hst (qt_ldp_list evX asX inX) ?_; rintro v ⟨hvl, hv1⟩) | (refine s_ex hst (qt_ldp evX asX inX) ?_; rintro v ⟨cl, rfl, hcl⟩) | refine s_qt hst (by first | exact qt_ldB evX asX SlIn.h inX omX | exact qt_ldI evX asX SlIn.h inX omX | exact qt_ld2 evX asX SlIn.h inX omX | exact qt_load_own evX asX SlIn.h inX rfl (by simp <;> omega) | exact qt_load rfl _ asX inX rfl rfl) ?_)) | (with_reducible refine Sl.k_field ?_; (first | refine s_qt hst (qt_field rfl inX) ?_ | ((first | refine s_ex hst (qt_fieldp evX asX inX inX rfl) ?_ | refine s_ex hst (qt_field_own evX asX inX) ?_); rintro v hp; (try simp only [Int.toNat_natCast, Int.toNat_natCast_add_one, Int.reduceToNat] at hp)))) | (with_reducible refine Sl.k_index ?_; (first | refine s_qt hst (qt_indexA rfl rfl inX inX omX omX) ?_ | ((first | refine s_ex hst (qt_indexP0 evX asX rfl inX inX) ?_ | refine s_ex hst (qt_indexP1 evX asX rfl inX inX) ?_ | refine s_ex hst (qt_index evX asX rfl inX inX omX omX) ?_ | refine s_ex hst (qt_indexAp evX asX rfl inX inX rfl omX omX) ?_ | refine s_ex hst (qt_index_own hst evX SlIn.h rfl inX inX omX omX) ?_); rintro v hp; (try simp only [Int.toNat_natCast, Int.toNat_natCast_add_one, Int.reduceToNat] at hp)))) | (with_reducible refine Sl.k_call ?_; (first | refine s_qt hst (by first | exact qt_len evX asX inX | exact qt_len_str evX inX | exact qt_len_own evX SlIn.h inX | exact qt_max rfl rfl | exact qt_min rfl rfl) ?_))) <;> (try simp only [Int.toNat_natCast, List.set_cons_succ, List.set_cons_zero, vOf_true, vOf_false, List.drop_succ_cons, List.drop_zero, List.take_succ_cons, List.take_zero, putD, Int.toNat_zero, Int.reduceToNat, Nat.mul_one, Nat.zero_add, Nat.add_zero, Nat.reduceMul, Nat.reduceAdd, Nat.zero_mul, Int.reduceSub, Int.reduceAdd, Int.reduceMul, Int.reduceNeg, Bool.not_true, Bool.not_false])) | (with_reducible refine Sl.gate rfl ?_; (first | go_skip | go_guarded | go_step)) | ((first | ((first | (with_reducible refine Sl.k_store ?_; (first | refine s_stW hst rfl BoxIn.h inX evX omX ?_ | refine s_stU hst evX asX SlIn.h inX evX omX ?_ | refine s_stD hst rfl BoxIn.h inX evX inX lenX ?_ | refine s_stR hst rfl BoxIn.h evX asX inX rfl rfl ?_ | refine s_store hst rfl _ BoxIn.h inX evX rfl lenOk oneOk (by simp) ?_ | refine s_st1 hst rfl BoxIn.h evX asX inX (by simp) ?_ | refine s_stB hst evX asX SlIn.h inX evX omX ?_ | refine s_stI hst evX asX SlIn.h inX evX omX ?_ | refine s_st2 hst evX asX SlIn.h inX evX omX ?_); clear hst; intro w hst) | (refine s_box hst evX rfl ?_; clear hst; intro bx w hst) | (refine s_alloc hst inX ?_; clear hst; intro bk w hst)))) <;> (try simp only [Int.toNat_natCast, List.set_cons_succ, List.set_cons_zero, vOf_true, vOf_false, List.drop_succ_cons, List.drop_zero, List.take_succ_cons, List.take_zero, putD, Int.toNat_zero, Int.reduceToNat, Nat.mul_one, Nat.zero_add, Nat.add_zero, Nat.reduceMul, Nat.reduceAdd, Nat.zero_mul, Int.reduceSub, Int.reduceAdd, Int.reduceMul, Int.reduceNeg, Bool.not_true, Bool.not_false]) <;> (try simp only [List.set_cons_succ, List.set_cons_zero, List.drop_succ_cons, List.drop_zero, List.take_succ_cons, List.take_zero, List.nil_append, List.cons_append, List.append_nil, Value.cells, List.eraseIdx_cons_zero, List.eraseIdx_cons_succ, Nat.zero_add, Nat.add_zero, List.flatten_cons, List.flatten_nil, List.map_cons, List.map_nil] at hst)))
          go_roundw
          case rel => exact ⟨i + 1, by omega, by go_num, hsu, hst⟩
          case measure => simp [intOf]; omega
    · obtain rfl : i = log.length := by omega
      have hE := validB_yes (log := log) (by have := ht.out; rwa [List.take_length] at this)
      repeat' (first | go_skip | ((first | (with_reducible refine Sl.k_guard ?_; (first | (refine Sl.guard_yes rfl ?_) | (refine Sl.guard_no rfl ?_) | (refine Sl.guard_cases rfl ?_ ?_ <;> intro hg <;> first | (exfalso; simp only [decide_eq_true_eq, decide_eq_false_iff_not, Bool.not_false, Bool.not_true, beq_iff_eq, beq_eq_false_iff_ne, ne_eq] at hg; omega) | (simp only [hg, Bool.not_true, Bool.not_false])) <;> (try simp only [decide_eq_true_eq, decide_eq_false_iff_not, Bool.not_false, Bool.not_true, beq_iff_eq, beq_eq_false_iff_ne, bne_iff_ne, bne_eq_false_iff_eq, ne_eq] at hg))) | (with_reducible refine Sl.k_bin ?_; refine s_qt hst (by first | exact qt_xor32 rfl rfl | exact qt_and32 rfl rfl | exact qt_or32 rfl rfl | exact qt_add32 rfl rfl | exact qt_shl32 rfl rfl omX | exact qt_shr32 rfl rfl omX) ?_) | (with_reducible refine Sl.k_conv ?_; refine s_qt hst (by first | exact qt_conv832 rfl inX inX | exact qt_conv3264 rfl inX inX) ?_) | (with_reducible refine Sl.k_conv ?_; refine s_stringI hst evX asX inX inX inX ?_) | (with_reducible refine Sl.k_un ?_; refine s_qt hst (by exact qt_not32 rfl) ?_) | (with_reducible refine Sl.k_build ?_; refine s_qt hst (by exact qt_buildW inX inX inX rfl rfl (by simp only [List.map_cons, List.map_nil, evF, nth]; rfl) (by simp [Value.cells])) ?_) | (with_reducible refine Sl.k_indexV ?_; refine s_qt hst (by exact qt_indexW evX rfl inX inX omX omX omX) ?_)) <;> (try simp only [Int.toNat_natCast, List.set_cons_succ, List.set_cons_zero, vOf_true, vOf_false, List.drop_succ_cons, List.drop_zero, List.take_succ_cons, List.take_zero, putD, Int.toNat_zero, Int.reduceToNat, Nat.mul_one, Nat.zero_add, Nat.add_zero, Nat.reduceMul, Nat.reduceAdd, Nat.zero_mul, Int.reduceSub, Int.reduceAdd, Int.reduceMul, Int.reduceNeg, Bool.not_true, Bool.not_false])) | ((fail_if_success (go_big_may)); (first | go_skip | go_guarded | go_step)) | ((first | (with_reducible refine Sl.k_load ?_; (first | refine s_qt hst (by first | exact qt_loadA evX BoxIn.h inX rfX | exact qt_ldp_flat evX asX inX inX rfl | exact qt_ldW evX BoxIn.h inX omX | exact qt_ldU evX asX SlIn.h inX omX | exact qt_ldp_u32 evX asX inX | exact qt_loadD evX BoxIn.h inX inX | exact qt_load rfl _ BoxIn.h inX rfl rfl) ?_ | (refine s_ex hst (qt_ldp_int evX asX inX) ?_; rintro v ⟨rfl, hI⟩) | refine s_qt hst (by first | exact qt_ldp_u8 evX asX inX | exact qt_ldp_bool evX asX inX) ?_ | (refine s_ex hst (qt_ldp_str evX asX inX) ?_; rintro v ⟨rfl, hs⟩) | (refine s_ex hst (qt_ldp_list evX asX inX) ?_; rintro v ⟨hvl, hv1⟩) | (refine s_ex hst (qt_ldp evX asX inX) ?_; rintro v ⟨cl, rfl, hcl⟩) | refine s_qt hst (by first | exact qt_ldB evX asX SlIn.h inX omX | exact qt_ldI evX asX SlIn.h inX omX | exact qt_ld2 evX asX SlIn.h inX omX | exact qt_load_own evX asX SlIn.h inX rfl (by simp <;> omega) | exact qt_load rfl _ asX inX rfl rfl) ?_)) | (with_reducible refine Sl.k_field ?_; (first | refine s_qt hst (qt_field rfl inX) ?_ | ((first | refine s_ex hst (qt_fieldp evX asX inX inX rfl) ?_ | refine s_ex hst (qt_field_own evX asX inX) ?_); rintro v hp; (try simp only [Int.toNat_natCast, Int.toNat_natCast_add_one, Int.reduceToNat] at hp)))) | (with_reducible refine Sl.k_index ?_; (first | refine s_qt hst (qt_indexA rfl rfl inX inX omX omX) ?_ | ((first | refine s_ex hst (qt_indexP0 evX asX rfl inX inX) ?_ | refine s_ex hst (qt_indexP1 evX asX rfl inX inX) ?_ | refine s_ex hst (qt_index evX asX rfl inX inX omX omX) ?_ | refine s_ex hst (qt_indexAp evX asX rfl inX inX rfl omX omX) ?_ | refine s_ex hst (qt_index_own hst evX SlIn.h rfl inX inX omX omX) ?_); rintro v hp; (try simp only [Int.toNat_natCast, Int.toNat_natCast_add_one, Int.reduceToNat] at hp)))) | (with_reducible refine Sl.k_call ?_; (first | refine s_qt hst (by first | exact qt_len evX asX inX | exact qt_len_str evX inX | exact qt_len_own evX SlIn.h inX | exact qt_max rfl rfl | exact qt_min rfl rfl) ?_))) <;> (try simp only [Int.toNat_natCast, List.set_cons_succ, List.set_cons_zero, vOf_true, vOf_false, List.drop_succ_cons, List.drop_zero, List.take_succ_cons, List.take_zero, putD, Int.toNat_zero, Int.reduceToNat, Nat.mul_one, Nat.zero_add, Nat.add_zero, Nat.reduceMul, Nat.reduceAdd, Nat.zero_mul, Int.reduceSub, Int.reduceAdd, Int.reduceMul, Int.reduceNeg, Bool.not_true, Bool.not_false])) | (with_reducible refine Sl.gate rfl ?_; (first | go_skip | go_guarded | go_step)) | ((first | ((first | (with_reducible refine Sl.k_store ?_; (first | refine s_stW hst rfl BoxIn.h inX evX omX ?_ | refine s_stU hst evX asX SlIn.h inX evX omX ?_ | refine s_stD hst rfl BoxIn.h inX evX inX lenX ?_ | refine s_stR hst rfl BoxIn.h evX asX inX rfl rfl ?_ | refine s_store hst rfl _ BoxIn.h inX evX rfl lenOk oneOk (by simp) ?_ | refine s_st1 hst rfl BoxIn.h evX asX inX (by simp) ?_ | refine s_stB hst evX asX SlIn.h inX evX omX ?_ | refine s_stI hst evX asX SlIn.h inX evX omX ?_ | refine s_st2 hst evX asX SlIn.h inX evX omX ?_); clear hst; intro w hst) | (refine s_box hst evX rfl ?_; clear hst; intro bx w hst) | (refine s_alloc hst inX ?_; clear hst; intro bk w hst)))) <;> (try simp only [Int.toNat_natCast, List.set_cons_succ, List.set_cons_zero, vOf_true, vOf_false, List.drop_succ_cons, List.drop_zero, List.take_succ_cons, List.take_zero, putD, Int.toNat_zero, Int.reduceToNat, Nat.mul_one, Nat.zero_add, Nat.add_zero, Nat.reduceMul, Nat.reduceAdd, Nat.zero_mul, Int.reduceSub, Int.reduceAdd, Int.reduceMul, Int.reduceNeg, Bool.not_true, Bool.not_false]) <;> (try simp only [List.set_cons_succ, List.set_cons_zero, List.drop_succ_cons, List.drop_zero, List.take_succ_cons, List.take_zero, List.nil_append, List.cons_append, List.append_nil, Value.cells, List.eraseIdx_cons_zero, List.eraseIdx_cons_succ, Nat.zero_add, Nat.add_zero, List.flatten_cons, List.flatten_nil, List.map_cons, List.map_nil] at hst)))
      go_ret
      exact ⟨_, rfl, by rw [hE]; rfl, hst⟩
end Go.Proofs.YtgihhhdeoaplhaaDoor
