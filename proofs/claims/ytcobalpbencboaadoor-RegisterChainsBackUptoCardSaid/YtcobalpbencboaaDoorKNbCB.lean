/- The statement RegisterChainsBack. -/
import Derived.Test.YtcobalpbencboaaDoorBi
import Derived.Test.YtcobalpbencboaaDoorBb
import Derived.Test.YtcobalpbencboaaDoorBj

/- Package register: heads compared. -/
namespace Go.Proofs.YtcobalpbencboaaDoor
set_option linter.unusedSimpArgs false
set_option linter.unusedVariables false
open Go.RowKit Go.Sl
instance keyI : Key Tryd.prog 3 Int 1 := key_int (by kernel_rfl)
instance key_hd : Key Tryd.prog 44 Hd 3 := by
  refine key_struct (d := 2) Tryd.underlying44 (by kernel_rfl) (by kernel_rfl) ?_
  simp only [List.toList_toArray]
  haveI k6 : KeyFs Tryd.prog [] 66 Unit 0 := keyFs_nil
  exact keyFs_cons (d := 2) (d' := 2) rfl (by kernel_rfl) (kb := keyFs_cons (d := 2) (d' := 2) rfl (by kernel_rfl) (kb := keyFs_cons (d := 1) (d' := 2) rfl (by kernel_rfl) (kb := keyFs_cons (d := 2) (d' := 2) rfl (by kernel_rfl) (kb := keyFs_cons (d := 2) (d' := 1) rfl (by kernel_rfl) (kb := keyFs_cons (d := 1) (d' := 0) rfl (by kernel_rfl) (kb := k6))))))
instance eqt_hd : EqTy Tryd.prog 44 := ⟨by kernel_rfl, by kernel_rfl, by kernel_rfl⟩

instance decHd : DecidableEq Hd := @instDecidableEqProd _ _ inferInstance (@instDecidableEqProd _ _ inferInstance (@instDecidableEqProd _ _ inferInstance (@instDecidableEqProd Dg (Dg × Int × Unit) inferInstance inferInstance)))
end Go.Proofs.YtcobalpbencboaaDoor

/- The statement RegisterChainsBack, walked. -/
--@u32
--@hgp
--@flat
--@dg
--@ex0
namespace Go.Proofs.YtcobalpbencboaaDoor
set_option linter.unusedSimpArgs false
set_option linter.unusedVariables false
open Go.RowKit Go.Sl

/-- The registers along a log. -/
def regsM (m : Dg) (log : List Ev) (n : Nat) : List Rg := (List.range (n + 1)).map fun k => foldM m (log.take k)
theorem regsM_len (m : Dg) (log : List Ev) (n : Nat) : (regsM m log n).length = n + 1 := by simp [regsM]
theorem regsM_zero (m : Dg) (log : List Ev) : regsM m log 0 = [startM m] := rfl
theorem regsM_succ (m : Dg) (log : List Ev) (n : Nat) : regsM m log (n + 1) = regsM m log n ++ [foldM m (log.take (n + 1))] := by
  rw [regsM, List.range_succ, List.map_append]; rfl
theorem regsM_get (m : Dg) (log : List Ev) (n k : Nat) (h : k < (regsM m log n).length) : (regsM m log n)[k] = foldM m (log.take k) := by
  simp [regsM]
theorem regsM_some (m : Dg) (log : List Ev) (n k : Nat) (h : k ≤ n) : (regsM m log n)[k]? = some (foldM m (log.take k)) := by
  simp [regsM, show k < n + 1 by omega]
theorem regsM_next (m : Dg) {log : List Ev} {n : Nat} (h : n < log.length) : regsM m log (n + 1) = regsM m log n ++ [extM (foldM m (log.take n)) (headM log[n])] := by
  rw [regsM_succ, foldM_succ m log (List.getElem?_eq_getElem h)]
theorem regsM_ok (m : Dg) (log : List Ev) (n : Nat) : ∀ r ∈ regsM m log n, RgOk r := by
  intro r hr
  obtain ⟨k, _, rfl⟩ := List.mem_map.1 hr
  exact foldM_ok m _
theorem rl_rgs {S : Snap} : ∀ {xs : List Rg}, (∀ r ∈ xs, RgOk r) → RL S (cF rgC xs) xs
  | [], _ => RL.nil
  | r :: xs, h => by
    have := RL.append (RL.one_mk (r_rg (S := S) (h r (.head _)))) (rl_rgs (S := S) fun x hx => h x (.tail _ hx))
    exact this

set_option maxRecDepth 8000 in
set_option maxHeartbeats 2000000 in
theorem chains_c {S M} (w : World) (hst : St S M w) (hG : Glob S) (m : Dg) (hm : m.l.length = 16) (va : Value) (a : List Ev) (ha : RSl S va a) (ham : a.length ≤ 1048576) (vb : Value) (b : List Ev) (hb : RSl S vb b) (hbm : b.length ≤ 1048576) :
    Rets Tryd.prog 12 [dgV m, va, vb] w fun v w' => v = .bool true ∧ St S M w' := by
  unfold Rets
  haveI : LenIs m.l 16 := ⟨hm⟩
  have ha1 := ha.oneCell
  have hb1 := hb.oneCell
  obtain ⟨f1, hf1⟩ : ∃ b, fewM a = b := ⟨_, rfl⟩
  obtain ⟨f2, hf2⟩ : ∃ x, fewM b = x := ⟨_, rfl⟩
  have c1 := fun {S : Snap} {M : List Chunk} (w : World) (hst : St S M w) (hl : RSl S va a) => (few_c w hst va a hl ham).eq hf1
  have c2 := fun {S : Snap} {M : List Chunk} (w : World) (hst : St S M w) (hl : RSl S vb b) => (few_c w hst vb b hl hbm).eq hf2
  cases f1 with
  | false =>
    go_enter Tryd.func12, Tryd.ntmps12
    repeat' (first | go_skip | (((with_reducible refine Sl.k_call ?_; (first | (refine s_call (rsanity_c _ hst hG) inX rfl ?_; clear hst; rintro v w ⟨rfl, hst⟩) | (refine s_call (c1 _ hst ha) inX rfl ?_; clear hst; rintro v w ⟨rfl, hst⟩)))) <;> (try refine nY ?_) <;> (try replace hst := nH hst)) | ((fail_if_success (go_big_may)); (go_step)) | (with_reducible refine Sl.gate rfl ?_; (go_step)) | (((((refine s_box hst evX rfl ?_; clear hst; intro bx w hst)))) <;> (try refine nY ?_) <;> (try replace hst := nH hst)))
    go_ret
    exact ⟨_, rfl, rfl, hst.drop⟩
  | true =>
    by_cases hab : a.length = b.length
    · have h1 : ((a.length : Int) != (b.length : Int)) = false := bne_eq_false_iff_eq.2 (by omega)
      cases f2 with
      | false =>
        go_enter Tryd.func12, Tryd.ntmps12
        repeat' (first | (((with_reducible refine Sl.k_guard ?_; ((refine Sl.guard_yes rfl ?_)))) <;> (try refine nY ?_)) | (((with_reducible refine Sl.k_call ?_; (first | (refine s_call (rsanity_c _ hst hG) inX rfl ?_; clear hst; rintro v w ⟨rfl, hst⟩) | (refine s_call (c1 _ hst ha) inX rfl ?_; clear hst; rintro v w ⟨rfl, hst⟩) | (refine s_call (c2 _ hst hb) inX rfl ?_; clear hst; rintro v w ⟨rfl, hst⟩)))) <;> (try refine nY ?_) <;> (try replace hst := nH hst)) | ((fail_if_success (go_big_may)); (go_step)) | (((with_reducible refine Sl.k_call ?_; (refine s_qt hst (by exact qt_len evX asX inX) ?_))) <;> (try refine nY ?_)) | (with_reducible refine Sl.gate rfl ?_; (go_step)) | (((((refine s_box hst evX rfl ?_; clear hst; intro bx w hst)))) <;> (try refine nY ?_) <;> (try replace hst := nH hst)))
        go_ret
        exact ⟨_, rfl, rfl, hst.drop⟩
      | true =>
        obtain ⟨k1, e1⟩ := fewM_of hf1
        obtain ⟨k2, e2⟩ := fewM_of hf2
        have cA := fun {S : Snap} {M : List Chunk} (w : World) (hst : St S M w) (hG : Glob S) (hl : RSl S va a) => fold_c w hst hG m hm va a hl (by omega) (fun e he => (e1 e he).ok)
        have cB := fun {S : Snap} {M : List Chunk} (w : World) (hst : St S M w) (hG : Glob S) (hl : RSl S vb b) => fold_c w hst hG m hm vb b hl (by omega) (fun e he => (e2 e he).ok)
        have okA := foldM_ok m a
        have okB := foldM_ok m b
        by_cases hr : foldM m a = foldM m b
        · go_enter Tryd.func12, Tryd.ntmps12
          repeat' (first | (((with_reducible refine Sl.k_guard ?_; ((refine Sl.guard_yes rfl ?_)))) <;> (try refine nY ?_)) | (((with_reducible refine Sl.k_call ?_; (first | (refine s_call (rsanity_c _ hst hG) inX rfl ?_; clear hst; rintro v w ⟨rfl, hst⟩) | (refine s_call (c1 _ hst ha) inX rfl ?_; clear hst; rintro v w ⟨rfl, hst⟩) | (refine s_call (c2 _ hst hb) inX rfl ?_; clear hst; rintro v w ⟨rfl, hst⟩)))) <;> (try refine nY ?_) <;> (try replace hst := nH hst)) | ((fail_if_success (go_big_may)); (go_step)) | (((with_reducible refine Sl.k_call ?_; (refine s_qt hst (by exact qt_len evX asX inX) ?_))) <;> (try refine nY ?_)) | (with_reducible refine Sl.gate rfl ?_; (go_step)) | (((((refine s_box hst evX rfl ?_; clear hst; intro bx w hst)))) <;> (try refine nY ?_) <;> (try replace hst := nH hst)))
          refine v_begin hst (by kernel_rfl) ?_; clear hst; intro ops; (try refine nY ?_)
          (refine t_qt 0 rfl (by kernel_rfl) rfl rfl (by exact qt_loadD evX BoxIn.h inX inX) ?_) <;> (try refine nY ?_)
          (refine t_qt 1 rfl (by kernel_rfl) rfl rfl (by exact qt_move evX) ?_) <;> (try refine nY ?_)
          (refine t_call 2 rfl (by kernel_rfl) rfl (fun S' M' w hS hM hst => cA w hst (hG.mono hS) (ha.mono hS)) inX rfl ?_) <;> (try refine nY ?_)
          (refine t_qt 3 rfl (by kernel_rfl) rfl rfl (by exact qt_loadD evX BoxIn.h inX inX) ?_) <;> (try refine nY ?_)
          (refine t_qt 4 rfl (by kernel_rfl) rfl rfl (by exact qt_move evX) ?_) <;> (try refine nY ?_)
          (refine t_call 5 rfl (by kernel_rfl) rfl (fun S' M' w hS hM hst => cB w hst (hG.mono hS) (hb.mono hS)) inX rfl ?_) <;> (try refine nY ?_)
          (refine t_qt 6 rfl (by kernel_rfl) rfl rfl (qt_neqK_b rfl rfl (r_rg okA) (r_rg okB) inX inX inferInstance (decide_eq_true hr)) ?_) <;> (try refine nY ?_)
          refine v_done (by kernel_rfl) ?_; clear ops; intro w hst
          have hz0 : (rgC (startM m)).length = 32 := Rep.len (S := S) (r_rg (startM_ok m))
          repeat' (first | (((with_reducible refine Sl.k_call ?_; ((refine s_call (start_c _ hst hG m hm) inX rfl ?_; clear hst; rintro v w ⟨rfl, hst⟩)))) <;> (try refine nY ?_) <;> (try replace hst := nH hst)) | ((fail_if_success (go_big_may)); (go_step)) | (((with_reducible refine Sl.k_load ?_; (refine s_qt hst (by exact qt_loadD evX BoxIn.h inX inX) ?_))) <;> (try refine nY ?_)))
          refine s_lit (vs := [rgV (startM m)]) (cs := rgC (startM m)) hst inX inX rfl rfl (by simp [Value.cells, hz0]) (by simp [Value.cells]) (by omega) (by omega) ?_
          clear hst; intro x w hst
          (try refine nY ?_)
          repeat' (first | (((with_reducible refine Sl.k_call ?_; ((refine s_call (start_c _ hst hG m hm) inX rfl ?_; clear hst; rintro v w ⟨rfl, hst⟩)))) <;> (try refine nY ?_) <;> (try replace hst := nH hst)) | ((fail_if_success (go_big_may)); (go_step)) | (((with_reducible refine Sl.k_load ?_; (refine s_qt hst (by exact qt_loadD evX BoxIn.h inX inX) ?_))) <;> (try refine nY ?_)))
          refine s_lit (vs := [rgV (startM m)]) (cs := rgC (startM m)) hst inX inX rfl rfl (by simp [Value.cells, hz0]) (by simp [Value.cells]) (by omega) (by omega) ?_
          clear hst; intro y w hst
          (try refine nY ?_)
          have hx1 := sl_onek hst (k := 1) rfl
          have hy1 := sl_onek hst (k := 0) rfl
          repeat' (((fail_if_success (go_big_may)); (go_step)))
          go_loopw [8, 9, 10] (fun u1 u2 v wr => ∃ n : Nat, n ≤ a.length ∧ v = .int .i64 n ∧ u1.oneCell' = true ∧ u2.oneCell' = true ∧ St S (.sl u2 42 32 (n + 1) (cF rgC (regsM m b n)) :: .sl u1 42 32 (n + 1) (cF rgC (regsM m a n)) :: .box bx (u8s m.l) 28 :: M) wr) (fun _ _ v _ => a.length - (intOf v).toNat)
          case atStart => exact ⟨0, Nat.zero_le _, rfl, hx1, hy1, hst⟩
          case round =>
            clear hst
            obtain ⟨n, hn, rfl, ho1, ho2, hst⟩ := hrel
            by_cases hlt : n < a.length
            · have hltb : n < b.length := by omega
              have hRx := rl_rgs (S := S) (regsM_ok m a n)
              have hRy := rl_rgs (S := S) (regsM_ok m b n)
              have hgx := regsM_some m a n n (Nat.le_refl _)
              have hgy := regsM_some m b n n (Nat.le_refl _)
              have hsx := Lib.hid (regsM_next m hlt)
              have hsy := Lib.hid (regsM_next m hltb)
              have hlx := regsM_len m a n
              have hly := regsM_len m b n
              have okx := foldM_ok m (a.take n)
              have oky := foldM_ok m (b.take n)
              have cHa := fun {S : Snap} {M : List Chunk} (w : World) (hst : St S M w) (hG : Glob S) (cs : List Value) (hR : Rep.R S cs a[n]) => head_c w hst hG cs a[n] hR (e1 _ (List.getElem_mem hlt)).ok.1 (e1 _ (List.getElem_mem hlt)).ok.2.1 (e1 _ (List.getElem_mem hlt)).ok.2.2
              have cHb := fun {S : Snap} {M : List Chunk} (w : World) (hst : St S M w) (hG : Glob S) (cs : List Value) (hR : Rep.R S cs b[n]) => head_c w hst hG cs b[n] hR (e2 _ (List.getElem_mem hltb)).ok.1 (e2 _ (List.getElem_mem hltb)).ok.2.1 (e2 _ (List.getElem_mem hltb)).ok.2.2
              have oha : HdOk (headM a[n]) := by
                obtain ⟨cs, hR⟩ := rsl_rep ha _ (List.getElem_mem hlt)
                exact headM_ok hR (e1 _ (List.getElem_mem hlt)).ok
              have ohb : HdOk (headM b[n]) := by
                obtain ⟨cs, hR⟩ := rsl_rep hb _ (List.getElem_mem hltb)
                exact headM_ok hR (e2 _ (List.getElem_mem hltb)).ok
              have okX := extM_ok (foldM m (a.take n)) (headM a[n])
              have okY := extM_ok (foldM m (b.take n)) (headM b[n])
              have cXa := fun {S : Snap} {M : List Chunk} (w : World) (hst : St S M w) (hG : Glob S) => extend_c w hst hG _ okx _ oha
              have cXb := fun {S : Snap} {M : List Chunk} (w : World) (hst : St S M w) (hG : Glob S) => extend_c w hst hG _ oky _ ohb
              generalize headM a[n] = Ha at *
              generalize headM b[n] = Hb at *
              generalize foldM m (a.take n) = Ra at *
              generalize foldM m (b.take n) = Rb at *
              generalize extM Ra Ha = Xa at *
              generalize extM Rb Hb = Xb at *
              generalize regsM m a n = xs at *
              generalize regsM m b n = ys at *
              have hza : (rgC Xa).length = 32 := Rep.len (S := S) (r_rg okX)
              have hzb : (rgC Xb).length = 32 := Rep.len (S := S) (r_rg okY)
              repeat' (first | ((fail_if_success (go_big_may)); (go_step)) | (((with_reducible refine Sl.k_call ?_; (refine s_qt hst (by exact qt_len evX asX inX) ?_))) <;> (try refine nY ?_)) | (with_reducible refine Sl.gate rfl ?_; (go_step)))
              refine v_begin hst (by kernel_rfl) ?_; clear hst; intro ops; (try refine nY ?_)
              (refine t_qt 0 rfl (by kernel_rfl) rfl rfl (by exact qt_move evX) ?_) <;> (try refine nY ?_)
              (refine t_qt 1 rfl (by kernel_rfl) rfl rfl (by exact qt_move evX) ?_) <;> (try refine nY ?_)
              (refine t_qt 2 rfl (by kernel_rfl) rfl rfl (by exact qt_move evX) ?_) <;> (try refine nY ?_)
              ((refine t_ex 3 rfl (by kernel_rfl) rfl rfl (fun w hst => qt_index_own hst evX SlIn.h rfl inX inX omX omX ) ?_; rintro  v3 hp3; simp only [Int.toNat_natCast] at hp3)) <;> (try refine nY ?_)
              (refine t_qt 4 rfl (by kernel_rfl) rfl rfl (qt_ldRF (j := n) evX hp3 SlIn.h flatRg hRx inX hgx) ?_) <;> (try refine nY ?_)
              (refine t_qt 5 rfl (by kernel_rfl) rfl rfl (by exact qt_move evX) ?_) <;> (try refine nY ?_)
              (refine t_qt 6 rfl (by kernel_rfl) rfl rfl (by exact qt_move evX) ?_) <;> (try refine nY ?_)
              ((refine t_ex0 7 rfl (by kernel_rfl) rfl rfl (qt_index evX asX rfl inX inX omX omX) ?_; rintro v hp; (try simp only [Int.toNat_natCast, Int.toNat_natCast_add_one, Int.reduceToNat] at hp))) <;> (try refine nY ?_)
              ((refine t_ex0 8 rfl (by kernel_rfl) rfl rfl (qt_ldp evX asX inX ) ?_; rintro  v8 ⟨cl8, rfl, hcl8⟩)) <;> (try refine nY ?_)
              (refine t_call 9 rfl (by kernel_rfl) rfl (fun S' M' w hS hM hst => cHa w hst (hG.mono hS) cl8 (Rep.mono hS hcl8)) inX rfl ?_) <;> (try refine nY ?_)
              (refine t_call 10 rfl (by kernel_rfl) rfl (fun S' M' w hS hM hst => cXa w hst (hG.mono hS)) inX rfl ?_) <;> (try refine nY ?_)
              refine v_one 11 rfl (by kernel_rfl) ?_; intro w hst K hK; refine s_lit (vs := [rgV (Xa)]) (cs := rgC (Xa)) hst inX inX rfl rfl (by simp [Value.cells, hza]) (by simp [Value.cells]) (by omega) (by omega) ?_; clear hst; intro x11 w hst; (try refine nY ?_); (try replace hst := nH hst); refine v_next hK hst (Snap.Le.refl _) (Suf.cons (Suf.refl _)) ?_; clear hst hK K; (try clear w); (try refine nY ?_)
              refine v_one 12 rfl (by kernel_rfl) ?_; intro w hst K hK; refine s_append (j := 0) hst evX evX SlIn.h rfl inX inX inX (Rep.one (S := S) (r_rg okX)) (by omega) (by omega) (by decide) ?_; clear hst; intro x12 w hst; (try refine nY ?_); (try replace hst := nH hst); replace hst := hst.drop; have hone12 := sl_one hst; refine v_last hK hst ?_; clear hst hK K; (try clear w); (try refine nY ?_)
              (refine t_qt 13 rfl (by kernel_rfl) rfl rfl (by exact qt_assign evX) ?_) <;> (try refine nY ?_)
              refine v_done (by kernel_rfl) ?_; clear ops; intro w hst
              have ho1 := sl_onek hst (k := 1) rfl
              repeat' (((fail_if_success (go_big_may)); (go_step)))
              refine v_begin hst (by kernel_rfl) ?_; clear hst; intro ops; (try refine nY ?_)
              (refine t_qt 0 rfl (by kernel_rfl) rfl rfl (by exact qt_move evX) ?_) <;> (try refine nY ?_)
              (refine t_qt 1 rfl (by kernel_rfl) rfl rfl (by exact qt_move evX) ?_) <;> (try refine nY ?_)
              (refine t_qt 2 rfl (by kernel_rfl) rfl rfl (by exact qt_move evX) ?_) <;> (try refine nY ?_)
              ((refine t_ex 3 rfl (by kernel_rfl) rfl rfl (fun w hst => qt_index_own hst evX SlIn.h rfl inX inX omX omX ) ?_; rintro  v3 hp3; simp only [Int.toNat_natCast] at hp3)) <;> (try refine nY ?_)
              (refine t_qt 4 rfl (by kernel_rfl) rfl rfl (qt_ldRF (j := n) evX hp3 SlIn.h flatRg hRy inX hgy) ?_) <;> (try refine nY ?_)
              (refine t_qt 5 rfl (by kernel_rfl) rfl rfl (by exact qt_move evX) ?_) <;> (try refine nY ?_)
              (refine t_qt 6 rfl (by kernel_rfl) rfl rfl (by exact qt_move evX) ?_) <;> (try refine nY ?_)
              ((refine t_ex0 7 rfl (by kernel_rfl) rfl rfl (qt_index evX asX rfl inX inX omX omX) ?_; rintro v hp; (try simp only [Int.toNat_natCast, Int.toNat_natCast_add_one, Int.reduceToNat] at hp))) <;> (try refine nY ?_)
              ((refine t_ex0 8 rfl (by kernel_rfl) rfl rfl (qt_ldp evX asX inX ) ?_; rintro  v8 ⟨cl8, rfl, hcl8⟩)) <;> (try refine nY ?_)
              (refine t_call 9 rfl (by kernel_rfl) rfl (fun S' M' w hS hM hst => cHb w hst (hG.mono hS) cl8 (Rep.mono hS hcl8)) inX rfl ?_) <;> (try refine nY ?_)
              (refine t_call 10 rfl (by kernel_rfl) rfl (fun S' M' w hS hM hst => cXb w hst (hG.mono hS)) inX rfl ?_) <;> (try refine nY ?_)
              refine v_one 11 rfl (by kernel_rfl) ?_; intro w hst K hK; refine s_lit (vs := [rgV (Xb)]) (cs := rgC (Xb)) hst inX inX rfl rfl (by simp [Value.cells, hzb]) (by simp [Value.cells]) (by omega) (by omega) ?_; clear hst; intro x11 w hst; (try refine nY ?_); (try replace hst := nH hst); refine v_next hK hst (Snap.Le.refl _) (Suf.cons (Suf.refl _)) ?_; clear hst hK K; (try clear w); (try refine nY ?_)
              refine v_one 12 rfl (by kernel_rfl) ?_; intro w hst K hK; refine s_append (j := 0) hst evX evX SlIn.h rfl inX inX inX (Rep.one (S := S) (r_rg okY)) (by omega) (by omega) (by decide) ?_; clear hst; intro x12 w hst; (try refine nY ?_); (try replace hst := nH hst); replace hst := hst.drop; have hone12 := sl_one hst; refine v_last hK hst ?_; clear hst hK K; (try clear w); (try refine nY ?_)
              (refine t_qt 13 rfl (by kernel_rfl) rfl rfl (by exact qt_assign evX) ?_) <;> (try refine nY ?_)
              refine v_done (by kernel_rfl) ?_; clear ops; intro w hst
              have ho2 := sl_onek hst (k := 0) rfl
              repeat' (first | ((fail_if_success (go_big_may)); (go_step)) | (with_reducible refine Sl.gate rfl ?_; (go_step)))
              go_roundw
              case rel => exact ⟨n + 1, by omega, by go_num, ho1, ho2, by rw [hsx.out, hsy.out, cF_snoc, cF_snoc]; exact hst⟩
              case measure => simp [intOf]; omega
            · obtain rfl : n = a.length := by omega
              have hlx := regsM_len m a a.length
              have hly := regsM_len m b a.length
              have gx : ∀ k, (h : k < (regsM m a a.length).length) → (regsM m a a.length)[k] = foldM m (a.take k) := regsM_get m a a.length
              have gy : ∀ k, (h : k < (regsM m b a.length).length) → (regsM m b a.length)[k] = foldM m (b.take k) := regsM_get m b a.length
              obtain ⟨S2, hS2, hstA, hy⟩ := St.freeze (α := Rg) hst (rl_rgs (regsM_ok m b a.length)) (by omega)
              clear hst
              obtain ⟨S3, hS3, hst, hx⟩ := St.freeze (α := Rg) hstA (rl_rgs (regsM_ok m a a.length)) (by omega)
              clear hstA
              replace hy := hy.mono hS3
              replace ha := (ha.mono hS2).mono hS3
              replace hb := (hb.mono hS2).mono hS3
              replace hG := (hG.mono hS2).mono hS3
              have hra : foldM m (a.take a.length) = foldM m (b.take a.length) := by rw [List.take_length, hab, List.take_length]; exact hr
              generalize regsM m a a.length = xs at *
              generalize regsM m b a.length = ys at *
              repeat' (first | ((fail_if_success (go_big_may)); (go_step)) | (((with_reducible refine Sl.k_call ?_; (refine s_qt hst (by exact qt_len evX asX inX) ?_))) <;> (try refine nY ?_)) | (with_reducible refine Sl.gate rfl ?_; (go_step)))
              go_loopw [11] (fun v wr => ∃ z : Int, v = .int .i64 z ∧ -1 ≤ z ∧ z < a.length ∧ Hid (foldM m (a.take (z + 1).toNat) = foldM m (b.take (z + 1).toNat)) ∧ St S3 (.box bx (u8s m.l) 28 :: M) wr) (fun v _ => (intOf v + 1).toNat)
              case atStart => exact ⟨_, rfl, by omega, by omega, Lib.hid (by first | (rw [show ((a.length : Int) - 1 + 1).toNat = a.length by omega]; exact hra) | (rw [show ((b.length : Int) - 1 + 1).toNat = a.length by omega]; exact hra)), hst⟩
              case round =>
                clear hst
                obtain ⟨z, rfl, hz1, hz2, hE, hst⟩ := hrel
                by_cases hz : 0 ≤ z
                · obtain ⟨j, rfl⟩ := Int.eq_ofNat_of_zero_le hz
                  have hja : j < a.length := by omega
                  have hjb : j < b.length := by omega
                  have hxl : j + 1 < xs.length := by omega
                  have hyl : j + 1 < ys.length := by omega
                  have hxl0 : j < xs.length := by omega
                  have hyl0 : j < ys.length := by omega
                  have E1 : xs[j + 1] = ys[j + 1] := by
                    rw [gx _ hxl, gy _ hyl]
                    have := hE.out
                    rwa [show ((j : Int) + 1).toNat = j + 1 by omega] at this
                  have x0 := gx j hxl0
                  have y0 := gy j hyl0
                  have x1 := gx (j + 1) hxl
                  have y1 := gy (j + 1) hyl
                  rw [foldM_succ m a (List.getElem?_eq_getElem hja), ← x0] at x1
                  rw [foldM_succ m b (List.getElem?_eq_getElem hjb), ← y0] at y1
                  have ok0 : RgOk xs[j] := by rw [x0]; exact foldM_ok m _
                  have ok1 : RgOk ys[j] := by rw [y0]; exact foldM_ok m _
                  have cHa := fun {S : Snap} {M : List Chunk} (w : World) (hst : St S M w) (hG : Glob S) (cs : List Value) (hR : Rep.R S cs a[j]) => head_c w hst hG cs a[j] hR (e1 _ (List.getElem_mem hja)).ok.1 (e1 _ (List.getElem_mem hja)).ok.2.1 (e1 _ (List.getElem_mem hja)).ok.2.2
                  have cHb := fun {S : Snap} {M : List Chunk} (w : World) (hst : St S M w) (hG : Glob S) (cs : List Value) (hR : Rep.R S cs b[j]) => head_c w hst hG cs b[j] hR (e2 _ (List.getElem_mem hjb)).ok.1 (e2 _ (List.getElem_mem hjb)).ok.2.1 (e2 _ (List.getElem_mem hjb)).ok.2.2
                  have oha : HdOk (headM a[j]) := by
                    obtain ⟨cs, hR⟩ := rsl_rep ha _ (List.getElem_mem hja)
                    exact headM_ok hR (e1 _ (List.getElem_mem hja)).ok
                  have ohb : HdOk (headM b[j]) := by
                    obtain ⟨cs, hR⟩ := rsl_rep hb _ (List.getElem_mem hjb)
                    exact headM_ok hR (e2 _ (List.getElem_mem hjb)).ok
                  have cXa := fun {S : Snap} {M : List Chunk} (w : World) (hst : St S M w) (hG : Glob S) => extend_c w hst hG _ ok0 _ oha
                  have cXb := fun {S : Snap} {M : List Chunk} (w : World) (hst : St S M w) (hG : Glob S) => extend_c w hst hG _ ok1 _ ohb
                  have okX : RgOk xs[j + 1] := by rw [x1]; exact extM_ok _ _
                  have okY : RgOk ys[j + 1] := by rw [y1]; exact extM_ok _ _
                  rw [← x1] at cXa
                  rw [← y1] at cXb
                  have EE : foldM m (a.take j) = foldM m (b.take j) ↔ xs[j] = ys[j] := by rw [x0, y0]
                  generalize headM a[j] = Ha at *
                  generalize headM b[j] = Hb at *
                  clear x0 y0 x1 y1 gx gy hE
                  repeat' (first | ((fail_if_success (go_big_may)); (go_step)) | (with_reducible refine Sl.gate rfl ?_; (go_step)))
                  refine v_begin hst (by kernel_rfl) ?_; clear hst; intro ops; (try refine nY ?_)
                  (refine t_qt 0 rfl (by kernel_rfl) rfl rfl (by exact qt_move evX) ?_) <;> (try refine nY ?_)
                  (refine t_qt 1 rfl (by kernel_rfl) rfl rfl (by exact qt_move evX) ?_) <;> (try refine nY ?_)
                  (refine t_qt 2 rfl (by kernel_rfl) rfl rfl (by exact qt_add' rfl rfl omX) ?_) <;> (try refine nY ?_)
                  ((refine t_ex0 3 rfl (by kernel_rfl) rfl rfl (qt_index evX asX rfl inX inX omX omX) ?_; rintro v hp; (try simp only [Int.toNat_natCast, Int.toNat_natCast_add_one, Int.reduceToNat] at hp))) <;> (try refine nY ?_)
                  (refine t_qt 4 rfl (by kernel_rfl) rfl rfl (by exact qt_ldp_flat evX asX inX inX rfl) ?_) <;> (try refine nY ?_)
                  (refine t_qt 5 rfl (by kernel_rfl) rfl rfl (by exact qt_move evX) ?_) <;> (try refine nY ?_)
                  (refine t_qt 6 rfl (by kernel_rfl) rfl rfl (by exact qt_move evX) ?_) <;> (try refine nY ?_)
                  (refine t_qt 7 rfl (by kernel_rfl) rfl rfl (by exact qt_add' rfl rfl omX) ?_) <;> (try refine nY ?_)
                  ((refine t_ex0 8 rfl (by kernel_rfl) rfl rfl (qt_index evX asX rfl inX inX omX omX) ?_; rintro v hp; (try simp only [Int.toNat_natCast, Int.toNat_natCast_add_one, Int.reduceToNat] at hp))) <;> (try refine nY ?_)
                  (refine t_qt 9 rfl (by kernel_rfl) rfl rfl (by exact qt_ldp_flat evX asX inX inX rfl) ?_) <;> (try refine nY ?_)
                  (refine t_qt 10 rfl (by kernel_rfl) rfl rfl (qt_neqK_b rfl rfl (r_rg okX) (r_rg okY) inX inX inferInstance (decide_eq_true E1)) ?_) <;> (try refine nY ?_)
                  refine v_done (by kernel_rfl) ?_; clear ops; intro w hst
                  repeat' (((fail_if_success (go_big_may)); (go_step)))
                  by_cases hh : Ha = Hb
                  · by_cases hx0 : xs[j] = ys[j]
                    · skip
                      refine v_begin hst (by kernel_rfl) ?_; clear hst; intro ops; (try refine nY ?_)
                      (refine t_qt 0 rfl (by kernel_rfl) rfl rfl (by exact qt_move evX) ?_) <;> (try refine nY ?_)
                      (refine t_qt 1 rfl (by kernel_rfl) rfl rfl (by exact qt_move evX) ?_) <;> (try refine nY ?_)
                      ((refine t_ex0 2 rfl (by kernel_rfl) rfl rfl (qt_index evX asX rfl inX inX omX omX) ?_; rintro v hp; (try simp only [Int.toNat_natCast, Int.toNat_natCast_add_one, Int.reduceToNat] at hp))) <;> (try refine nY ?_)
                      ((refine t_ex0 3 rfl (by kernel_rfl) rfl rfl (qt_ldp evX asX inX ) ?_; rintro  v3 ⟨cl3, rfl, hcl3⟩)) <;> (try refine nY ?_)
                      (refine t_call 4 rfl (by kernel_rfl) rfl (fun S' M' w hS hM hst => cHa w hst (hG.mono hS) cl3 (Rep.mono hS hcl3)) inX rfl ?_) <;> (try refine nY ?_)
                      (refine t_qt 5 rfl (by kernel_rfl) rfl rfl (by exact qt_move evX) ?_) <;> (try refine nY ?_)
                      (refine t_qt 6 rfl (by kernel_rfl) rfl rfl (by exact qt_move evX) ?_) <;> (try refine nY ?_)
                      ((refine t_ex0 7 rfl (by kernel_rfl) rfl rfl (qt_index evX asX rfl inX inX omX omX) ?_; rintro v hp; (try simp only [Int.toNat_natCast, Int.toNat_natCast_add_one, Int.reduceToNat] at hp))) <;> (try refine nY ?_)
                      ((refine t_ex0 8 rfl (by kernel_rfl) rfl rfl (qt_ldp evX asX inX ) ?_; rintro  v8 ⟨cl8, rfl, hcl8⟩)) <;> (try refine nY ?_)
                      (refine t_call 9 rfl (by kernel_rfl) rfl (fun S' M' w hS hM hst => cHb w hst (hG.mono hS) cl8 (Rep.mono hS hcl8)) inX rfl ?_) <;> (try refine nY ?_)
                      (refine t_qt 10 rfl (by kernel_rfl) rfl rfl (qt_neqK_b rfl rfl (r_hd oha) (r_hd ohb) inX inX inferInstance (decide_eq_true hh)) ?_) <;> (try refine nY ?_)
                      (refine t_qt 11 rfl (by kernel_rfl) rfl rfl (by exact qt_move evX) ?_) <;> (try refine nY ?_)
                      (refine t_qt 12 rfl (by kernel_rfl) rfl rfl (by exact qt_move evX) ?_) <;> (try refine nY ?_)
                      (refine t_qt 13 rfl (by kernel_rfl) rfl rfl (by exact qt_move evX) ?_) <;> (try refine nY ?_)
                      ((refine t_ex0 14 rfl (by kernel_rfl) rfl rfl (qt_index evX asX rfl inX inX omX omX) ?_; rintro v hp; (try simp only [Int.toNat_natCast, Int.toNat_natCast_add_one, Int.reduceToNat] at hp))) <;> (try refine nY ?_)
                      (refine t_qt 15 rfl (by kernel_rfl) rfl rfl (by exact qt_ldp_flat evX asX inX inX rfl) ?_) <;> (try refine nY ?_)
                      (refine t_qt 16 rfl (by kernel_rfl) rfl rfl (by exact qt_move evX) ?_) <;> (try refine nY ?_)
                      (refine t_qt 17 rfl (by kernel_rfl) rfl rfl (by exact qt_move evX) ?_) <;> (try refine nY ?_)
                      ((refine t_ex0 18 rfl (by kernel_rfl) rfl rfl (qt_index evX asX rfl inX inX omX omX) ?_; rintro v hp; (try simp only [Int.toNat_natCast, Int.toNat_natCast_add_one, Int.reduceToNat] at hp))) <;> (try refine nY ?_)
                      (refine t_qt 19 rfl (by kernel_rfl) rfl rfl (by exact qt_ldp_flat evX asX inX inX rfl) ?_) <;> (try refine nY ?_)
                      ((refine t_qt 20 rfl (by kernel_rfl) rfl rfl (qt_neqK_b rfl rfl (r_rg ok0) (r_rg ok1) inX inX inferInstance (decide_eq_true hx0)) ?_)) <;> (try refine nY ?_)
                      (refine t_qt 21 rfl (by kernel_rfl) rfl rfl (by exact qt_pick_f rfl evX) ?_) <;> (try refine nY ?_)
                      refine v_done (by kernel_rfl) ?_; clear ops; intro w hst
                      repeat' (first | ((fail_if_success (go_big_may)); (go_step)) | (with_reducible refine Sl.gate rfl ?_; (go_step)))
                      go_roundw
                      case rel => exact ⟨(j : Int) - 1, by go_num, by omega, by omega, Lib.hid (by rw [show ((j : Int) - 1 + 1).toNat = j by omega]; exact EE.2 hx0), hst⟩
                      case measure => simp [intOf]
                    · skip
                      refine v_begin hst (by kernel_rfl) ?_; clear hst; intro ops; (try refine nY ?_)
                      (refine t_qt 0 rfl (by kernel_rfl) rfl rfl (by exact qt_move evX) ?_) <;> (try refine nY ?_)
                      (refine t_qt 1 rfl (by kernel_rfl) rfl rfl (by exact qt_move evX) ?_) <;> (try refine nY ?_)
                      ((refine t_ex0 2 rfl (by kernel_rfl) rfl rfl (qt_index evX asX rfl inX inX omX omX) ?_; rintro v hp; (try simp only [Int.toNat_natCast, Int.toNat_natCast_add_one, Int.reduceToNat] at hp))) <;> (try refine nY ?_)
                      ((refine t_ex0 3 rfl (by kernel_rfl) rfl rfl (qt_ldp evX asX inX ) ?_; rintro  v3 ⟨cl3, rfl, hcl3⟩)) <;> (try refine nY ?_)
                      (refine t_call 4 rfl (by kernel_rfl) rfl (fun S' M' w hS hM hst => cHa w hst (hG.mono hS) cl3 (Rep.mono hS hcl3)) inX rfl ?_) <;> (try refine nY ?_)
                      (refine t_qt 5 rfl (by kernel_rfl) rfl rfl (by exact qt_move evX) ?_) <;> (try refine nY ?_)
                      (refine t_qt 6 rfl (by kernel_rfl) rfl rfl (by exact qt_move evX) ?_) <;> (try refine nY ?_)
                      ((refine t_ex0 7 rfl (by kernel_rfl) rfl rfl (qt_index evX asX rfl inX inX omX omX) ?_; rintro v hp; (try simp only [Int.toNat_natCast, Int.toNat_natCast_add_one, Int.reduceToNat] at hp))) <;> (try refine nY ?_)
                      ((refine t_ex0 8 rfl (by kernel_rfl) rfl rfl (qt_ldp evX asX inX ) ?_; rintro  v8 ⟨cl8, rfl, hcl8⟩)) <;> (try refine nY ?_)
                      (refine t_call 9 rfl (by kernel_rfl) rfl (fun S' M' w hS hM hst => cHb w hst (hG.mono hS) cl8 (Rep.mono hS hcl8)) inX rfl ?_) <;> (try refine nY ?_)
                      (refine t_qt 10 rfl (by kernel_rfl) rfl rfl (qt_neqK_b rfl rfl (r_hd oha) (r_hd ohb) inX inX inferInstance (decide_eq_true hh)) ?_) <;> (try refine nY ?_)
                      (refine t_qt 11 rfl (by kernel_rfl) rfl rfl (by exact qt_move evX) ?_) <;> (try refine nY ?_)
                      (refine t_qt 12 rfl (by kernel_rfl) rfl rfl (by exact qt_move evX) ?_) <;> (try refine nY ?_)
                      (refine t_qt 13 rfl (by kernel_rfl) rfl rfl (by exact qt_move evX) ?_) <;> (try refine nY ?_)
                      ((refine t_ex0 14 rfl (by kernel_rfl) rfl rfl (qt_index evX asX rfl inX inX omX omX) ?_; rintro v hp; (try simp only [Int.toNat_natCast, Int.toNat_natCast_add_one, Int.reduceToNat] at hp))) <;> (try refine nY ?_)
                      (refine t_qt 15 rfl (by kernel_rfl) rfl rfl (by exact qt_ldp_flat evX asX inX inX rfl) ?_) <;> (try refine nY ?_)
                      (refine t_qt 16 rfl (by kernel_rfl) rfl rfl (by exact qt_move evX) ?_) <;> (try refine nY ?_)
                      (refine t_qt 17 rfl (by kernel_rfl) rfl rfl (by exact qt_move evX) ?_) <;> (try refine nY ?_)
                      ((refine t_ex0 18 rfl (by kernel_rfl) rfl rfl (qt_index evX asX rfl inX inX omX omX) ?_; rintro v hp; (try simp only [Int.toNat_natCast, Int.toNat_natCast_add_one, Int.reduceToNat] at hp))) <;> (try refine nY ?_)
                      (refine t_qt 19 rfl (by kernel_rfl) rfl rfl (by exact qt_ldp_flat evX asX inX inX rfl) ?_) <;> (try refine nY ?_)
                      ((refine t_qt 20 rfl (by kernel_rfl) rfl rfl (qt_neqK_b rfl rfl (r_rg ok0) (r_rg ok1) inX inX inferInstance (decide_eq_false hx0)) ?_)) <;> (try refine nY ?_)
                      (refine t_qt 21 rfl (by kernel_rfl) rfl rfl (by exact qt_pick_f rfl evX) ?_) <;> (try refine nY ?_)
                      refine v_done (by kernel_rfl) ?_; clear ops; intro w hst
                      repeat' (((fail_if_success (go_big_may)); (go_step)))
                      refine v_begin hst (by kernel_rfl) ?_; clear hst; intro ops; (try refine nY ?_)
                      (refine t_qt 0 rfl (by kernel_rfl) rfl rfl (by exact qt_move evX) ?_) <;> (try refine nY ?_)
                      (refine t_qt 1 rfl (by kernel_rfl) rfl rfl (by exact qt_move evX) ?_) <;> (try refine nY ?_)
                      (refine t_qt 2 rfl (by kernel_rfl) rfl rfl (by exact qt_move evX) ?_) <;> (try refine nY ?_)
                      (refine t_qt 3 rfl (by kernel_rfl) rfl rfl (by exact qt_move evX) ?_) <;> (try refine nY ?_)
                      ((refine t_ex0 4 rfl (by kernel_rfl) rfl rfl (qt_index evX asX rfl inX inX omX omX) ?_; rintro v hp; (try simp only [Int.toNat_natCast, Int.toNat_natCast_add_one, Int.reduceToNat] at hp))) <;> (try refine nY ?_)
                      (refine t_qt 5 rfl (by kernel_rfl) rfl rfl (by exact qt_ldp_flat evX asX inX inX rfl) ?_) <;> (try refine nY ?_)
                      (refine t_qt 6 rfl (by kernel_rfl) rfl rfl (by exact qt_move evX) ?_) <;> (try refine nY ?_)
                      (refine t_qt 7 rfl (by kernel_rfl) rfl rfl (by exact qt_move evX) ?_) <;> (try refine nY ?_)
                      ((refine t_ex0 8 rfl (by kernel_rfl) rfl rfl (qt_index evX asX rfl inX inX omX omX) ?_; rintro v hp; (try simp only [Int.toNat_natCast, Int.toNat_natCast_add_one, Int.reduceToNat] at hp))) <;> (try refine nY ?_)
                      (((refine t_ex0 9 rfl (by kernel_rfl) rfl rfl (qt_ldp evX asX inX ) ?_; rintro  v9 ⟨cl9, rfl, hcl9⟩))) <;> (try refine nY ?_)
                      ((refine t_call 10 rfl (by kernel_rfl) rfl (fun S' M' w hS hM hst => cHa w hst (hG.mono hS) cl9 (Rep.mono hS hcl9)) inX rfl ?_)) <;> (try refine nY ?_)
                      ((refine t_call 11 rfl (by kernel_rfl) rfl (fun S' M' w hS hM hst => cXa w hst (hG.mono hS)) inX rfl ?_)) <;> (try refine nY ?_)
                      (refine t_qt 12 rfl (by kernel_rfl) rfl rfl (by exact qt_move evX) ?_) <;> (try refine nY ?_)
                      (refine t_qt 13 rfl (by kernel_rfl) rfl rfl (by exact qt_move evX) ?_) <;> (try refine nY ?_)
                      ((refine t_ex0 14 rfl (by kernel_rfl) rfl rfl (qt_index evX asX rfl inX inX omX omX) ?_; rintro v hp; (try simp only [Int.toNat_natCast, Int.toNat_natCast_add_one, Int.reduceToNat] at hp))) <;> (try refine nY ?_)
                      (refine t_qt 15 rfl (by kernel_rfl) rfl rfl (by exact qt_ldp_flat evX asX inX inX rfl) ?_) <;> (try refine nY ?_)
                      (refine t_qt 16 rfl (by kernel_rfl) rfl rfl (by exact qt_move evX) ?_) <;> (try refine nY ?_)
                      (refine t_qt 17 rfl (by kernel_rfl) rfl rfl (by exact qt_move evX) ?_) <;> (try refine nY ?_)
                      ((refine t_ex0 18 rfl (by kernel_rfl) rfl rfl (qt_index evX asX rfl inX inX omX omX) ?_; rintro v hp; (try simp only [Int.toNat_natCast, Int.toNat_natCast_add_one, Int.reduceToNat] at hp))) <;> (try refine nY ?_)
                      (((refine t_ex0 19 rfl (by kernel_rfl) rfl rfl (qt_ldp evX asX inX ) ?_; rintro  v19 ⟨cl19, rfl, hcl19⟩))) <;> (try refine nY ?_)
                      ((refine t_call 20 rfl (by kernel_rfl) rfl (fun S' M' w hS hM hst => cHb w hst (hG.mono hS) cl19 (Rep.mono hS hcl19)) inX rfl ?_)) <;> (try refine nY ?_)
                      ((refine t_call 21 rfl (by kernel_rfl) rfl (fun S' M' w hS hM hst => cXb w hst (hG.mono hS)) inX rfl ?_)) <;> (try refine nY ?_)
                      ((refine t_qt 22 rfl (by kernel_rfl) rfl rfl (qt_eqlK_b rfl rfl (r_rg okX) (r_rg okY) inX inX inferInstance (decide_eq_true E1)) ?_)) <;> (try refine nY ?_)
                      (refine t_qt 23 rfl (by kernel_rfl) rfl rfl (by exact qt_pick_t rfl evX) ?_) <;> (try refine nY ?_)
                      (refine t_qt 24 rfl (by kernel_rfl) rfl rfl (by exact qt_assign evX) ?_) <;> (try refine nY ?_)
                      refine v_done (by kernel_rfl) ?_; clear ops; intro w hst
                      repeat' (((fail_if_success (go_big_may)); (go_step)))
                      go_ret
                      exact ⟨_, rfl, rfl, St.weaken (hS2.trans hS3) hst.drop⟩
                  · skip
                    refine v_begin hst (by kernel_rfl) ?_; clear hst; intro ops; (try refine nY ?_)
                    (refine t_qt 0 rfl (by kernel_rfl) rfl rfl (by exact qt_move evX) ?_) <;> (try refine nY ?_)
                    (refine t_qt 1 rfl (by kernel_rfl) rfl rfl (by exact qt_move evX) ?_) <;> (try refine nY ?_)
                    ((refine t_ex0 2 rfl (by kernel_rfl) rfl rfl (qt_index evX asX rfl inX inX omX omX) ?_; rintro v hp; (try simp only [Int.toNat_natCast, Int.toNat_natCast_add_one, Int.reduceToNat] at hp))) <;> (try refine nY ?_)
                    ((refine t_ex0 3 rfl (by kernel_rfl) rfl rfl (qt_ldp evX asX inX ) ?_; rintro  v3 ⟨cl3, rfl, hcl3⟩)) <;> (try refine nY ?_)
                    (refine t_call 4 rfl (by kernel_rfl) rfl (fun S' M' w hS hM hst => cHa w hst (hG.mono hS) cl3 (Rep.mono hS hcl3)) inX rfl ?_) <;> (try refine nY ?_)
                    (refine t_qt 5 rfl (by kernel_rfl) rfl rfl (by exact qt_move evX) ?_) <;> (try refine nY ?_)
                    (refine t_qt 6 rfl (by kernel_rfl) rfl rfl (by exact qt_move evX) ?_) <;> (try refine nY ?_)
                    ((refine t_ex0 7 rfl (by kernel_rfl) rfl rfl (qt_index evX asX rfl inX inX omX omX) ?_; rintro v hp; (try simp only [Int.toNat_natCast, Int.toNat_natCast_add_one, Int.reduceToNat] at hp))) <;> (try refine nY ?_)
                    ((refine t_ex0 8 rfl (by kernel_rfl) rfl rfl (qt_ldp evX asX inX ) ?_; rintro  v8 ⟨cl8, rfl, hcl8⟩)) <;> (try refine nY ?_)
                    (refine t_call 9 rfl (by kernel_rfl) rfl (fun S' M' w hS hM hst => cHb w hst (hG.mono hS) cl8 (Rep.mono hS hcl8)) inX rfl ?_) <;> (try refine nY ?_)
                    (refine t_qt 10 rfl (by kernel_rfl) rfl rfl (qt_neqK_b rfl rfl (r_hd oha) (r_hd ohb) inX inX inferInstance (decide_eq_false hh)) ?_) <;> (try refine nY ?_)
                    (refine t_qt 11 rfl (by kernel_rfl) rfl rfl (by exact qt_move evX) ?_) <;> (try refine nY ?_)
                    (refine t_no 12 rfl (by kernel_rfl) rfl rfl ?_) <;> (try refine nY ?_)
                    (refine t_no 13 rfl (by kernel_rfl) rfl rfl ?_) <;> (try refine nY ?_)
                    (refine t_no 14 rfl (by kernel_rfl) rfl rfl ?_) <;> (try refine nY ?_)
                    (refine t_no 15 rfl (by kernel_rfl) rfl rfl ?_) <;> (try refine nY ?_)
                    (refine t_no 16 rfl (by kernel_rfl) rfl rfl ?_) <;> (try refine nY ?_)
                    (refine t_no 17 rfl (by kernel_rfl) rfl rfl ?_) <;> (try refine nY ?_)
                    (refine t_no 18 rfl (by kernel_rfl) rfl rfl ?_) <;> (try refine nY ?_)
                    (refine t_no 19 rfl (by kernel_rfl) rfl rfl ?_) <;> (try refine nY ?_)
                    (refine t_no 20 rfl (by kernel_rfl) rfl rfl ?_) <;> (try refine nY ?_)
                    (refine t_qt 21 rfl (by kernel_rfl) rfl rfl (by exact qt_pick_t rfl evX) ?_) <;> (try refine nY ?_)
                    refine v_done (by kernel_rfl) ?_; clear ops; intro w hst
                    repeat' (((fail_if_success (go_big_may)); (go_step)))
                    refine v_begin hst (by kernel_rfl) ?_; clear hst; intro ops; (try refine nY ?_)
                    (refine t_qt 0 rfl (by kernel_rfl) rfl rfl (by exact qt_move evX) ?_) <;> (try refine nY ?_)
                    (refine t_qt 1 rfl (by kernel_rfl) rfl rfl (by exact qt_move evX) ?_) <;> (try refine nY ?_)
                    (refine t_qt 2 rfl (by kernel_rfl) rfl rfl (by exact qt_move evX) ?_) <;> (try refine nY ?_)
                    (refine t_qt 3 rfl (by kernel_rfl) rfl rfl (by exact qt_move evX) ?_) <;> (try refine nY ?_)
                    ((refine t_ex0 4 rfl (by kernel_rfl) rfl rfl (qt_index evX asX rfl inX inX omX omX) ?_; rintro v hp; (try simp only [Int.toNat_natCast, Int.toNat_natCast_add_one, Int.reduceToNat] at hp))) <;> (try refine nY ?_)
                    (refine t_qt 5 rfl (by kernel_rfl) rfl rfl (by exact qt_ldp_flat evX asX inX inX rfl) ?_) <;> (try refine nY ?_)
                    (refine t_qt 6 rfl (by kernel_rfl) rfl rfl (by exact qt_move evX) ?_) <;> (try refine nY ?_)
                    (refine t_qt 7 rfl (by kernel_rfl) rfl rfl (by exact qt_move evX) ?_) <;> (try refine nY ?_)
                    ((refine t_ex0 8 rfl (by kernel_rfl) rfl rfl (qt_index evX asX rfl inX inX omX omX) ?_; rintro v hp; (try simp only [Int.toNat_natCast, Int.toNat_natCast_add_one, Int.reduceToNat] at hp))) <;> (try refine nY ?_)
                    (((refine t_ex0 9 rfl (by kernel_rfl) rfl rfl (qt_ldp evX asX inX ) ?_; rintro  v9 ⟨cl9, rfl, hcl9⟩))) <;> (try refine nY ?_)
                    ((refine t_call 10 rfl (by kernel_rfl) rfl (fun S' M' w hS hM hst => cHa w hst (hG.mono hS) cl9 (Rep.mono hS hcl9)) inX rfl ?_)) <;> (try refine nY ?_)
                    ((refine t_call 11 rfl (by kernel_rfl) rfl (fun S' M' w hS hM hst => cXa w hst (hG.mono hS)) inX rfl ?_)) <;> (try refine nY ?_)
                    (refine t_qt 12 rfl (by kernel_rfl) rfl rfl (by exact qt_move evX) ?_) <;> (try refine nY ?_)
                    (refine t_qt 13 rfl (by kernel_rfl) rfl rfl (by exact qt_move evX) ?_) <;> (try refine nY ?_)
                    ((refine t_ex0 14 rfl (by kernel_rfl) rfl rfl (qt_index evX asX rfl inX inX omX omX) ?_; rintro v hp; (try simp only [Int.toNat_natCast, Int.toNat_natCast_add_one, Int.reduceToNat] at hp))) <;> (try refine nY ?_)
                    (refine t_qt 15 rfl (by kernel_rfl) rfl rfl (by exact qt_ldp_flat evX asX inX inX rfl) ?_) <;> (try refine nY ?_)
                    (refine t_qt 16 rfl (by kernel_rfl) rfl rfl (by exact qt_move evX) ?_) <;> (try refine nY ?_)
                    (refine t_qt 17 rfl (by kernel_rfl) rfl rfl (by exact qt_move evX) ?_) <;> (try refine nY ?_)
                    ((refine t_ex0 18 rfl (by kernel_rfl) rfl rfl (qt_index evX asX rfl inX inX omX omX) ?_; rintro v hp; (try simp only [Int.toNat_natCast, Int.toNat_natCast_add_one, Int.reduceToNat] at hp))) <;> (try refine nY ?_)
                    (((refine t_ex0 19 rfl (by kernel_rfl) rfl rfl (qt_ldp evX asX inX ) ?_; rintro  v19 ⟨cl19, rfl, hcl19⟩))) <;> (try refine nY ?_)
                    ((refine t_call 20 rfl (by kernel_rfl) rfl (fun S' M' w hS hM hst => cHb w hst (hG.mono hS) cl19 (Rep.mono hS hcl19)) inX rfl ?_)) <;> (try refine nY ?_)
                    ((refine t_call 21 rfl (by kernel_rfl) rfl (fun S' M' w hS hM hst => cXb w hst (hG.mono hS)) inX rfl ?_)) <;> (try refine nY ?_)
                    ((refine t_qt 22 rfl (by kernel_rfl) rfl rfl (qt_eqlK_b rfl rfl (r_rg okX) (r_rg okY) inX inX inferInstance (decide_eq_true E1)) ?_)) <;> (try refine nY ?_)
                    (refine t_qt 23 rfl (by kernel_rfl) rfl rfl (by exact qt_pick_t rfl evX) ?_) <;> (try refine nY ?_)
                    (refine t_qt 24 rfl (by kernel_rfl) rfl rfl (by exact qt_assign evX) ?_) <;> (try refine nY ?_)
                    refine v_done (by kernel_rfl) ?_; clear ops; intro w hst
                    repeat' (((fail_if_success (go_big_may)); (go_step)))
                    go_ret
                    exact ⟨_, rfl, rfl, St.weaken (hS2.trans hS3) hst.drop⟩
                · repeat' (first | ((fail_if_success (go_big_may)); (go_step)) | (with_reducible refine Sl.gate rfl ?_; (go_step)))
                  go_ret
                  exact ⟨_, rfl, rfl, St.weaken (hS2.trans hS3) hst.drop⟩
        · go_enter Tryd.func12, Tryd.ntmps12
          repeat' (first | (((with_reducible refine Sl.k_guard ?_; ((refine Sl.guard_yes rfl ?_)))) <;> (try refine nY ?_)) | (((with_reducible refine Sl.k_call ?_; (first | (refine s_call (rsanity_c _ hst hG) inX rfl ?_; clear hst; rintro v w ⟨rfl, hst⟩) | (refine s_call (c1 _ hst ha) inX rfl ?_; clear hst; rintro v w ⟨rfl, hst⟩) | (refine s_call (c2 _ hst hb) inX rfl ?_; clear hst; rintro v w ⟨rfl, hst⟩)))) <;> (try refine nY ?_) <;> (try replace hst := nH hst)) | ((fail_if_success (go_big_may)); (go_step)) | (((with_reducible refine Sl.k_call ?_; (refine s_qt hst (by exact qt_len evX asX inX) ?_))) <;> (try refine nY ?_)) | (with_reducible refine Sl.gate rfl ?_; (go_step)) | (((((refine s_box hst evX rfl ?_; clear hst; intro bx w hst)))) <;> (try refine nY ?_) <;> (try replace hst := nH hst)))
          refine v_begin hst (by kernel_rfl) ?_; clear hst; intro ops; (try refine nY ?_)
          (refine t_qt 0 rfl (by kernel_rfl) rfl rfl (by exact qt_loadD evX BoxIn.h inX inX) ?_) <;> (try refine nY ?_)
          (refine t_qt 1 rfl (by kernel_rfl) rfl rfl (by exact qt_move evX) ?_) <;> (try refine nY ?_)
          (refine t_call 2 rfl (by kernel_rfl) rfl (fun S' M' w hS hM hst => cA w hst (hG.mono hS) (ha.mono hS)) inX rfl ?_) <;> (try refine nY ?_)
          (refine t_qt 3 rfl (by kernel_rfl) rfl rfl (by exact qt_loadD evX BoxIn.h inX inX) ?_) <;> (try refine nY ?_)
          (refine t_qt 4 rfl (by kernel_rfl) rfl rfl (by exact qt_move evX) ?_) <;> (try refine nY ?_)
          (refine t_call 5 rfl (by kernel_rfl) rfl (fun S' M' w hS hM hst => cB w hst (hG.mono hS) (hb.mono hS)) inX rfl ?_) <;> (try refine nY ?_)
          (refine t_qt 6 rfl (by kernel_rfl) rfl rfl (qt_neqK_b rfl rfl (r_rg okA) (r_rg okB) inX inX inferInstance (decide_eq_false hr)) ?_) <;> (try refine nY ?_)
          refine v_done (by kernel_rfl) ?_; clear ops; intro w hst
          repeat' (((fail_if_success (go_big_may)); (go_step)))
          go_ret
          exact ⟨_, rfl, rfl, hst.drop⟩
    · have h1 : ((a.length : Int) != (b.length : Int)) = true := bne_iff_ne.2 (by omega)
      go_enter Tryd.func12, Tryd.ntmps12
      repeat' (first | go_skip | (((with_reducible refine Sl.k_guard ?_; ((refine Sl.guard_yes rfl ?_)))) <;> (try refine nY ?_)) | (((with_reducible refine Sl.k_call ?_; (first | (refine s_call (rsanity_c _ hst hG) inX rfl ?_; clear hst; rintro v w ⟨rfl, hst⟩) | (refine s_call (c1 _ hst ha) inX rfl ?_; clear hst; rintro v w ⟨rfl, hst⟩)))) <;> (try refine nY ?_) <;> (try replace hst := nH hst)) | ((fail_if_success (go_big_may)); (go_step)) | (((with_reducible refine Sl.k_call ?_; (refine s_qt hst (by exact qt_len evX asX inX) ?_))) <;> (try refine nY ?_)) | (with_reducible refine Sl.gate rfl ?_; (go_step)) | (((((refine s_box hst evX rfl ?_; clear hst; intro bx w hst)))) <;> (try refine nY ?_) <;> (try replace hst := nH hst)))
      go_ret
      exact ⟨_, rfl, rfl, hst.drop⟩
end Go.Proofs.YtcobalpbencboaaDoor

/- The statement RegisterChainsBack. -/
namespace Go.Proofs.YtcobalpbencboaaDoor
set_option linter.unusedSimpArgs false
set_option linter.unusedVariables false
open Go.RowKit Go.Sl Go.ChangeShapes Go.WideShapes Go.ChangeAt

set_option maxRecDepth 20000 in
theorem chains_post (H : Type) (enc : TypeId × Value → H) (W : World) (base : Nat) (args : Array Value) (ds gs : List (DataW H)) (before : List MemPlace)
    (hval : ∀ (j : Nat) t v, Tryd.f12.params[j]? = some t → args[j]? = some v → Value.okWide Tryd.prog W .any base t v)
    (hW : DataW.Whole enc Tryd.prog Tryd.f12.params.toList Rows.registerChainsBackSpec.vars false W args.toList ds gs before) (hk : Rows.uptoSmall H (ds ++ gs) = true) (hL : laidMetH Tryd.prog Rows.registerChainsBackUptoRow.laid W) :
    Calls Tryd.prog 12 args W fun e W' => ∃ v, e = .returned v ∧ Rows.registerChainsBackSpec.post enc Tryd.prog Tryd.f12 false true false false W args v W' := by
  have hW' := hW
  obtain ⟨p, q, hA0, hV, rfl, hfz, hnd⟩ := hW
  have hA : DataW.TrodAll enc Tryd.prog W 0 (fun _ => true) true Tryd.f12.params.toList args.toList ds p := hA0
  have hk := small_all hk
  rw [Tryd.params12] at hA hval
  obtain ⟨v0, vs0, d0, ds0, p0, q0, hargs, rfl, rfl, h0, r0⟩ := trodAll_cons hA
  obtain ⟨v1, vs1, d1, ds1, p1, q1, rfl, rfl, rfl, h1, r1⟩ := trodAll_cons r0
  obtain ⟨v2, vs2, d2, ds2, p2, q2, rfl, rfl, rfl, h2, r2⟩ := trodAll_cons r1
  obtain ⟨rfl, rfl, rfl⟩ := trodAll_nil r2
  obtain rfl : args = #[v0, v1, v2] := by cases args; simp_all
  obtain ⟨rfl, rfl⟩ := trodVars_none hV
  simp only [List.append_nil, Rows.uptoBulkAll] at hk
  obtain ⟨d0, rfl, hd0⟩ := open_dg (hval 0 28 v0 rfl rfl) h0
  obtain ⟨l1, hl1, hm1⟩ := open_evs (hval 1 48 v1 rfl rfl) h1 (by omega)
  obtain ⟨l2, hl2, hm2⟩ := open_evs (hval 2 48 v2 rfl rfl) h2 (by omega)
  refine Calls.mono (chains_c W (St.start W) (glob_of hL) d0 hd0 v1 l1 hl1 hm1 v2 l2 hl2 hm2) fun e W' ⟨v, he, hv, hst⟩ => ?_
  subst hv
  exact ⟨_, he, law_post (tb := 4) rfl hW' (by kernel_rfl) (by rw [Tryd.params12]; intro t ht'; have e : t = 28 ∨ t = 48 := (by simpa using ht'); rcases e with rfl | rfl <;> exact ⟨by kernel_rfl, of_decide_eq_true (by kernel_rfl)⟩) (by kernel_rfl) (by kernel_rfl) rfl rfl rfl hst.below⟩

abbrev chains_args : Array Value := #[.agg #[.int .u8 0, .int .u8 0, .int .u8 0, .int .u8 0, .int .u8 0, .int .u8 0, .int .u8 0, .int .u8 0, .int .u8 0, .int .u8 0, .int .u8 0, .int .u8 0, .int .u8 0, .int .u8 0, .int .u8 0, .int .u8 0], .slice none 0 0, .slice none 0 0]
theorem chains_met (os : Os) : laidMet Tryd.prog Rows.registerChainsBackUptoRow.laid ((laidWorld os #[]).forCall (fun _ _ => 0) ⟨#[], chains_args, []⟩).memory :=
  laidMet_of_run' 8 (by kernel_rfl) (by kernel_rfl)
theorem chains_reads (os : Os) {H : Type} (enc : TypeId × Value → H) : ∃ places, DataW.whole enc Tryd.prog ((laidWorld os #[]).forCall (fun _ _ => 0) ⟨#[], chains_args, []⟩).memory Tryd.f12.params.toList Rows.registerChainsBackSpec.vars false chains_args.toList 8 = some ([.agg [.lit (.int .u8 0), .lit (.int .u8 0), .lit (.int .u8 0), .lit (.int .u8 0), .lit (.int .u8 0), .lit (.int .u8 0), .lit (.int .u8 0), .lit (.int .u8 0), .lit (.int .u8 0), .lit (.int .u8 0), .lit (.int .u8 0), .lit (.int .u8 0), .lit (.int .u8 0), .lit (.int .u8 0), .lit (.int .u8 0), .lit (.int .u8 0)], .nil, .nil], [], places) :=
  ⟨[], by kernel_rfl⟩

set_option maxRecDepth 100000 in
theorem chains_lifted (os : Os) (started : os.Started) (H : Type) (enc : TypeId × Value → H) (F : Stop.Interp) :
    ReturnsInHanded {} Tryd.checked os 12 .any ((Rows.OpenSpec.upto Rows.registerChainsBackSpec).preRow enc Tryd.prog Tryd.f12 Rows.registerChainsBackUptoRow.domain false Rows.registerChainsBackUptoRow.laid) (((Rows.OpenSpec.upto Rows.registerChainsBackSpec).at F).post enc Tryd.prog Tryd.f12 false true false false) := by
  obtain ⟨places, hx⟩ := chains_reads os enc
  refine returnsInHanded_of_row (C := Tryd.checked) (s := Rows.OpenSpec.upto Rows.registerChainsBackSpec) own started (by kernel_rfl) Tryd.func12
    (witness_row_at (enc := enc) (C := Tryd.checked) false (laidWorld os #[]) chains_args rfl (by kernel_rfl) (by kernel_rfl) (by kernel_rfl)
      (OpenSpec.preRow_of_cond 8 hx (by kernel_rfl) (fun k hk => by cases hk; kernel_rfl) (by kernel_rfl) (chains_met os))) ?_
  intro W base args ds gs before hval hW _ hc _ hL _ _
  exact chains_post H enc W base args ds gs before hval hW (hc _ rfl) hL

theorem chains_said : Rows.RegisterChainsBackUptoSaid :=
  OpenClaim.holds_of_cond 12 Tryd.f12 rfl rfl rfl rfl rfl rfl rfl ⟨rfl, rfl, rfl, rfl, rfl⟩ rfl rfl rfl rfl rfl (by kernel_rfl) Tryd.func12 (by kernel_rfl)
    (of_decide_eq_true (by kernel_rfl)) (by unfold Func.isWrapper; first | (rw [if_pos (by decide +kernel)]; kernel_rfl) | (rw [if_neg (by decide +kernel)]; exact ⟨rfl, rfl⟩))
    (fun os started H enc _ F => by rw [OpenClaim.pre_eq_preRow]; exact chains_lifted os started H enc F)

theorem chains_plain (f : FuncId) (fn : Func) (hf : Tryd.pinned.checked.prog.funcNamed "bootchain/bootchainlaw20.RegisterChainsBack" = some f) (hfn : Tryd.pinned.checked.prog.funcs[f]? = some fn) :
    false = Tryd.pinned.checked.prog.looks [] ∧ ∀ (j : Nat) t, fn.params[j]? = some t → Tryd.pinned.checked.prog.wantsStandIn t = false := by
  obtain rfl : f = 12 := Option.some.inj ((show Tryd.prog.funcNamed "bootchain/bootchainlaw20.RegisterChainsBack" = some 12 by kernel_rfl).symm.trans hf) |>.symm
  obtain rfl : fn = Tryd.f12 := (Option.some.inj (Tryd.func12.symm.trans hfn)).symm
  refine ⟨by kernel_rfl, fun j t ht => ?_⟩
  rw [Tryd.params12] at ht
  have e : t = 28 ∨ t = 48 := by simpa using Array.mem_of_getElem? ht
  rcases e with rfl | rfl
  · exact (show Tryd.prog.wantsStandIn 28 = false by kernel_rfl)
  · exact (show Tryd.prog.wantsStandIn 48 = false by kernel_rfl)

theorem chains_proved : Rows.RegisterChainsBackUptoCardSaid :=
  Claim7.holds_tied_plain_at .later [] _ _ _ _ chains_said (fun _ h => by cases h) (by kernel_rfl) (fun _ h => by cases h) registerChainsBackUpto_row_tie rfl ⟨rfl, rfl⟩ (by kernel_rfl) rfl chains_plain (by kernel_rfl)
end Go.Proofs.YtcobalpbencboaaDoor
