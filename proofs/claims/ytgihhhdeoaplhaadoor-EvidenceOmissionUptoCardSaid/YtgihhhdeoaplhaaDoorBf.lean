/- Package register walked; what comes in. -/
import Derived.Test.YtgihhhdeoaplhaaDoorCards
import Derived.Test.YtgihhhdeoaplhaaDoorTie
import Derived.Deep.DeepHandedRow
import Derived.Lib.LaidTab
import Derived.Stop.LaidErr
import Derived.Test.YtgihhhdeoaplhaaDoorBb
import Derived.Test.YtgihhhdeoaplhaaDoorBe
import Derived.Test.YtgihhhdeoaplhaaDoorBc
import Derived.Test.YtgihhhdeoaplhaaDoorBa

/- Package register: leaves, roots of lists, walked. -/
--@u32
--@hgp
--@flat
--@dg
--@ex0
namespace Go.Proofs.YtgihhhdeoaplhaaDoor
set_option linter.unusedSimpArgs false
set_option linter.unusedVariables false
open Go.RowKit Go.Sl

theorem encL_len (xs : List Int) : (encL xs).length ≤ 10 + 10 * xs.length := by
  have := flat_len xs
  have := encI_len xs.length
  unfold encL
  rw [List.length_append]; omega
def leafP (i took : Int) : Dg := ⟨dig 10 [encI i, encI took]⟩
def noteP (i n : Int) : Dg := ⟨dig 8 [encI i, encI n]⟩
theorem leafP_len (i t : Int) : (leafP i t).l.length = 16 := dig_len _ _
theorem noteP_len (i t : Int) : (noteP i t).l.length = 16 := dig_len _ _
theorem size2 {a b : List UInt8} {n m : Nat} (ha : a.length ≤ n) (hb : b.length ≤ m) : sizeB [a, b] ≤ n + m + 20 := by simp [sizeB]; omega
theorem size1 {a : List UInt8} {n : Nat} (ha : a.length ≤ n) : sizeB [a] ≤ n + 10 := by simp [sizeB]; omega

set_option maxRecDepth 8000 in
set_option maxHeartbeats 400000 in
theorem pleaf_c {S M} (w : World) (hst : St S M w) (hG : Glob S) (i t : Int) (hi : I64 i) (ht : I64 t) :
    Rets Tryd.prog 23 [.int .i64 i, .int .i64 t] w fun v w' => v = dgV (leafP i t) ∧ St S M w' := by
  unfold Rets
  haveI : LenIs (leafP i t).l 16 := ⟨leafP_len i t⟩
  go_enter Tryd.func23, Tryd.ntmps23
  repeat' (first | (((with_reducible refine Sl.k_call ?_; ((refine s_call (int_f _ hst i hi) inX rfl ?_; clear hst; rintro v w ⟨S1, hS1, h1, h11, hst⟩)))) <;> (try refine nY ?_) <;> (try replace hst := nH hst)) | ((fail_if_success (go_big_may)); (go_step)) | (((((refine s_alloc hst inX ?_; clear hst; intro bk w hst)))) <;> (try refine nY ?_) <;> (try replace hst := nH hst)))
  repeat' ((((with_reducible refine Sl.k_call ?_; ((refine s_call (int_f _ hst t ht) inX rfl ?_; clear hst; rintro v w ⟨S2, hS2, h2, h21, hst⟩)))) <;> (try refine nY ?_) <;> (try replace hst := nH hst)))
  refine s_parts hst (.cons (h1.mono hS2) (.cons h2 .nil)) inX inX rfl rfl (by omega) ?_
  clear hst; intro S3 u w hS3 hu hu1 hst
  (try refine nY ?_)
  repeat' (first | (((with_reducible refine Sl.k_call ?_; ((refine s_call (digest_c _ hst (((hG.mono hS1).mono hS2).mono hS3) 10 (by omega) _ _ hu (Nat.le_trans (size2 (encI_len i) (encI_len t)) (by omega))) inX rfl ?_; clear hst; rintro v w ⟨rfl, hst⟩)))) <;> (try refine nY ?_) <;> (try replace hst := nH hst)) | ((fail_if_success (go_big_may)); (go_step)) | (((((with_reducible refine Sl.k_store ?_; (refine s_stD hst rfl BoxIn.h inX evX inX lenX ?_); clear hst; intro w hst)))) <;> (try refine nY ?_) <;> (try replace hst := nH hst)))
  exact ret_D rfl hst rfl BoxIn.h inX inX ⟨_, rfl, rfl, St.weaken ((hS1.trans hS2).trans hS3) hst.drop⟩

set_option maxRecDepth 8000 in
set_option maxHeartbeats 400000 in
theorem pnote_c {S M} (w : World) (hst : St S M w) (hG : Glob S) (i t : Int) (hi : I64 i) (ht : I64 t) :
    Rets Tryd.prog 46 [.int .i64 i, .int .i64 t] w fun v w' => v = dgV (noteP i t) ∧ St S M w' := by
  unfold Rets
  haveI : LenIs (noteP i t).l 16 := ⟨noteP_len i t⟩
  go_enter Tryd.func46, Tryd.ntmps46
  repeat' (first | (((with_reducible refine Sl.k_call ?_; ((refine s_call (int_f _ hst i hi) inX rfl ?_; clear hst; rintro v w ⟨S1, hS1, h1, h11, hst⟩)))) <;> (try refine nY ?_) <;> (try replace hst := nH hst)) | ((fail_if_success (go_big_may)); (go_step)) | (((((refine s_alloc hst inX ?_; clear hst; intro bk w hst)))) <;> (try refine nY ?_) <;> (try replace hst := nH hst)))
  repeat' ((((with_reducible refine Sl.k_call ?_; ((refine s_call (int_f _ hst t ht) inX rfl ?_; clear hst; rintro v w ⟨S2, hS2, h2, h21, hst⟩)))) <;> (try refine nY ?_) <;> (try replace hst := nH hst)))
  refine s_parts hst (.cons (h1.mono hS2) (.cons h2 .nil)) inX inX rfl rfl (by omega) ?_
  clear hst; intro S3 u w hS3 hu hu1 hst
  (try refine nY ?_)
  repeat' (first | (((with_reducible refine Sl.k_call ?_; ((refine s_call (digest_c _ hst (((hG.mono hS1).mono hS2).mono hS3) 8 (by omega) _ _ hu (Nat.le_trans (size2 (encI_len i) (encI_len t)) (by omega))) inX rfl ?_; clear hst; rintro v w ⟨rfl, hst⟩)))) <;> (try refine nY ?_) <;> (try replace hst := nH hst)) | ((fail_if_success (go_big_may)); (go_step)) | (((((with_reducible refine Sl.k_store ?_; (refine s_stD hst rfl BoxIn.h inX evX inX lenX ?_); clear hst; intro w hst)))) <;> (try refine nY ?_) <;> (try replace hst := nH hst)))
  exact ret_D rfl hst rfl BoxIn.h inX inX ⟨_, rfl, rfl, St.weaken ((hS1.trans hS2).trans hS3) hst.drop⟩

/-- The leaves of a list. -/
def leavesP (lf : Int → Int → Dg) (xs : List Int) : List Dg := (List.range xs.length).map fun (j : Nat) => lf (j : Int) (xs.getD j 0)
theorem leavesP_len (lf : Int → Int → Dg) (xs : List Int) : (leavesP lf xs).length = xs.length := by simp [leavesP]
def leavesN (lf : Int → Int → Dg) (xs : List Int) (n : Nat) : List Dg := ((List.range n).map fun (j : Nat) => lf (j : Int) (xs.getD j 0)) ++ List.replicate (xs.length - n) ⟨List.replicate 16 0⟩
theorem leavesN_len (lf : Int → Int → Dg) (xs : List Int) {n : Nat} (h : n ≤ xs.length) : (leavesN lf xs n).length = xs.length := by simp [leavesN]; omega
theorem leavesN_succ (lf : Int → Int → Dg) (xs : List Int) {i : Nat} (h : i < xs.length) : (leavesN lf xs i).set i (lf (i : Int) (xs.getD i 0)) = leavesN lf xs (i + 1) := by
  have e : xs.length - i = (xs.length - (i + 1)) + 1 := by omega
  rw [leavesN, leavesN, List.range_succ, List.map_append, List.set_append, if_neg (by simp), e, List.replicate_succ]
  simp
theorem leavesN_all (lf : Int → Int → Dg) (xs : List Int) : leavesN lf xs xs.length = leavesP lf xs := by simp [leavesN, leavesP]
theorem leavesN_16 {lf : Int → Int → Dg} (hl : ∀ i t, (lf i t).l.length = 16) (xs : List Int) (n : Nat) : ∀ d ∈ leavesN lf xs n, d.l.length = 16 := by
  intro d hd
  rcases List.mem_append.1 hd with h | h
  · obtain ⟨j, _, rfl⟩ := List.mem_map.1 h
    exact hl _ _
  · obtain ⟨_, rfl⟩ := List.mem_replicate.1 h
    rfl
theorem leavesP_16 {lf : Int → Int → Dg} (hl : ∀ i t, (lf i t).l.length = 16) (xs : List Int) : ∀ d ∈ leavesP lf xs, d.l.length = 16 := by
  rw [← leavesN_all]; exact leavesN_16 hl xs _

theorem dgc_len' (ds : List Dg) (h : ∀ d ∈ ds, d.l.length = 16) : (cF dgC ds).length = ds.length * 16 := by
  induction ds with
  | nil => rfl
  | cons d r ih =>
    have h1 := h d (.head _)
    have h2 := ih fun x hx => h x (.tail _ hx)
    have e : cF dgC (d :: r) = u8s d.l ++ cF dgC r := rfl
    rw [e, List.length_append, h2, u8s_length, h1, List.length_cons]
    omega
theorem dgc_set : ∀ (ds : List Dg) (h : ∀ d ∈ ds, d.l.length = 16) (j : Nat) (hj : j < ds.length) (d : Dg), (cF dgC ds).take (j * 16) ++ u8s d.l ++ (cF dgC ds).drop (j * 16 + 16) = cF dgC (ds.set j d)
  | [], _, _, hj, _ => by simp at hj
  | e :: r, h, j, hj, d => by
    have h1 := h e (.head _)
    have e1 : cF dgC (e :: r) = u8s e.l ++ cF dgC r := rfl
    have hl : (u8s e.l).length = 16 := by rw [u8s_length, h1]
    cases j with
    | zero =>
      have e2 : cF dgC ((e :: r).set 0 d) = u8s d.l ++ cF dgC r := rfl
      have h3 := List.drop_left (l₁ := u8s e.l) (l₂ := cF dgC r)
      rw [hl] at h3
      rw [e2, e1, Nat.zero_mul, List.take_zero, List.nil_append, Nat.zero_add, h3]
    | succ j =>
      have e2 : cF dgC ((e :: r).set (j + 1) d) = u8s e.l ++ cF dgC (r.set j d) := rfl
      have ih := dgc_set r (fun x hx => h x (.tail _ hx)) j (by simpa using hj) d
      rw [e2, e1, ← ih, List.take_append, List.take_of_length_le (by omega), List.drop_append, List.drop_of_length_le (by omega), hl, List.nil_append, show (j + 1) * 16 - 16 = j * 16 by omega, show (j + 1) * 16 + 16 - 16 = j * 16 + 16 by omega]
      simp only [List.append_assoc]
theorem zero_dgs (n : Nat) : (List.replicate n (u8s (List.replicate 16 0))).flatten = cF dgC (List.replicate n ⟨List.replicate 16 0⟩) := by
  simp [cF, dgC]

set_option maxRecDepth 8000 in
set_option maxHeartbeats 1000000 in
theorem rootI_c {S M} (w : World) (hst : St S M w) (hG : Glob S) (vl : Value) (xs : List Int) (hl : RSl S vl xs) (hm : xs.length ≤ 1000) (f : FuncId) (lf : Int → Int → Dg) (hlf : ∀ i t, (lf i t).l.length = 16)
    (hb : Body Tryd.prog f) (cl : ∀ {S M} (w : World), St S M w → Glob S → ∀ i t : Int, I64 i → I64 t → Rets Tryd.prog f [.int .i64 i, .int .i64 t] w fun v w' => v = dgV (lf i t) ∧ St S M w') :
    Rets Tryd.prog 45 [vl, .func (.func f) #[] #[]] w fun v w' => v = dgV (rootM (leavesP lf xs)) ∧ St S M w' := by
  unfold Rets
  have hl1 := hl.oneCell
  haveI := hb
  haveI : LenIs (rootM (leavesP lf xs)).l 16 := ⟨rootM_len _⟩
  have hi64 := rsl_i64 hl
  go_enter Tryd.func45, Tryd.ntmps45
  repeat' (first | ((fail_if_success (go_big_may)); (go_step)) | (((with_reducible refine Sl.k_call ?_; (refine s_qt hst (by exact qt_len evX asX inX) ?_))) <;> (try refine nY ?_)) | (((((refine s_alloc hst inX ?_; clear hst; intro bk w hst)))) <;> (try refine nY ?_) <;> (try replace hst := nH hst)))
  refine s_make (n := xs.length) hst (by infer_instance) (by infer_instance) evX evX (by omega) (by omega) ?_
  clear hst; intro vw w hst
  rename Nat => b4
  have hst : St S (.sl vw 23 16 xs.length (cF dgC (leavesN lf xs 0)) :: .box b4 (u8s (List.replicate 16 0)) 23 :: M) w := by
    have e : leavesN lf xs 0 = List.replicate xs.length ⟨List.replicate 16 0⟩ := by simp [leavesN]
    rw [e, ← zero_dgs]
    exact hst
  have hvw := sl_one hst
  (try refine nY ?_)
  repeat' (first | ((fail_if_success (go_big_may)); (go_step)) | (((with_reducible refine Sl.k_call ?_; (refine s_qt hst (by exact qt_len evX asX inX) ?_))) <;> (try refine nY ?_)))
  go_loopw [13] (fun v wr => ∃ (i : Nat) (ds : List Dg), i ≤ xs.length ∧ v = .int .i64 i ∧ Hid (ds = leavesN lf xs i) ∧ (xs.length ≤ ds.length ∧ ds.length ≤ xs.length) ∧ St S (.sl vw 23 16 xs.length (cF dgC ds) :: .box b4 (u8s (List.replicate 16 0)) 23 :: M) wr) (fun v _ => xs.length - (intOf v).toNat)
  case atStart => exact ⟨0, _, Nat.zero_le _, rfl, Lib.hid rfl, by rw [leavesN_len _ _ (Nat.zero_le _)]; omega, hst⟩
  case round =>
    clear hst
    obtain ⟨i, ds, hi, rfl, hds, hdl, hst⟩ := hrel
    have hd16 : ∀ d ∈ ds, d.l.length = 16 := by rw [hds.out]; exact leavesN_16 hlf xs i
    by_cases hlt : i < xs.length
    · have hx := hi64 xs[i] (List.getElem_mem hlt)
      have hi2 : I64 (i : Int) := by unfold I64; omega
      have hsucc := Lib.hid (leavesN_succ lf xs hlt)
      have hgd := Lib.hid (show xs.getD i 0 = xs[i] by rw [List.getD_eq_getElem?_getD, List.getElem?_eq_getElem hlt]; rfl)
      have hcl := dgc_len' ds hd16
      have hset := Lib.hid (dgc_set ds hd16 i (by omega) (lf (i : Int) xs[i]))
      have hl16 := hlf (i : Int) xs[i]
      repeat' (first | (((with_reducible refine Sl.k_call ?_; ((refine s_callv (cl _ hst hG (i : Int) xs[i] hi2 hx) rfl inX rfl rfl ?_; clear hst; rintro v w ⟨rfl, hst⟩)))) <;> (try refine nY ?_) <;> (try replace hst := nH hst)) | ((fail_if_success (go_big_may)); (go_step)) | ((first | (with_reducible refine Sl.k_load ?_; ((refine s_ex hst (qt_ldp_int evX asX inX) ?_; rintro v ⟨rfl, hI⟩))) | (with_reducible refine Sl.k_index ?_; (((first | refine s_ex hst (qt_index evX asX rfl inX inX omX omX) ?_ | refine s_ex hst (qt_index_own hst evX SlIn.h rfl inX inX omX omX) ?_); rintro v hp; (try simp only [Int.toNat_natCast, Int.toNat_natCast_add_one, Int.reduceToNat] at hp))))) <;> (try refine nY ?_)) | (with_reducible refine Sl.gate rfl ?_; (go_step)))
      refine s_store_own hst evX asX SlIn.h inX evX (cs := u8s (lf (i : Int) xs[i]).l) rfl (by rw [u8s_length]; exact hl16) (List.all_eq_true.2 (u8s_one _)) (by omega) ?_
      clear hst; intro w hst
      have hst : St S (.sl vw 23 16 xs.length (cF dgC (ds.set i (lf (i : Int) xs[i]))) :: .box b4 (u8s (List.replicate 16 0)) 23 :: M) w := by rw [← hset.out]; exact hst
      (try refine nY ?_)
      repeat' (first | ((fail_if_success (go_big_may)); (go_step)) | (with_reducible refine Sl.gate rfl ?_; (go_step)))
      go_roundw
      case rel => exact ⟨i + 1, _, by omega, by go_num, Lib.hid (by rw [hds.out, ← hgd.out, hsucc.out]), by rw [List.length_set]; omega, hst⟩
      case measure => simp [intOf]; omega
    · obtain rfl : i = xs.length := by omega
      obtain ⟨S1, hS1, hst, hv⟩ := St.freeze (α := Dg) hst (rl_digs hd16) (by omega)
      have hv1 := hv.oneCell
      have hE : Hid (ds = leavesP lf xs) := Lib.hid (by rw [hds.out, leavesN_all])
      haveI : LenIs (rootM ds).l 16 := ⟨rootM_len _⟩
      repeat' (first | (((with_reducible refine Sl.k_call ?_; ((refine s_call (root_c ds.length _ hst (hG.mono hS1) _ ds hv (Nat.le_refl _) (by omega)) inX rfl ?_; clear hst; rintro v w ⟨rfl, hst⟩)))) <;> (try refine nY ?_) <;> (try replace hst := nH hst)) | ((fail_if_success (go_big_may)); (go_step)) | (with_reducible refine Sl.gate rfl ?_; (go_step)) | (((((with_reducible refine Sl.k_store ?_; (refine s_stD hst rfl BoxIn.h inX evX inX lenX ?_); clear hst; intro w hst)))) <;> (try refine nY ?_) <;> (try replace hst := nH hst)))
      exact ret_D rfl hst rfl BoxIn.h inX inX ⟨_, rfl, by rw [hE.out], St.weaken hS1 hst.drop⟩
end Go.Proofs.YtgihhhdeoaplhaaDoor

/- Package register: heads of events, starts, extensions, walked. -/
--@u32
--@hgp
--@flat
--@dg
--@ex0
namespace Go.Proofs.YtgihhhdeoaplhaaDoor
set_option linter.unusedSimpArgs false
set_option linter.unusedVariables false
open Go.RowKit Go.Sl

abbrev Ev := Dg × List Int × List Int × List Int × Int × Unit
abbrev Hd := Dg × Dg × Int × Dg × Dg × Int × Unit
abbrev Rg := Dg × Dg × Unit
def hdC (h : Hd) : List Value := u8s h.1.l ++ (u8s h.2.1.l ++ ([.int .i64 h.2.2.1] ++ (u8s h.2.2.2.1.l ++ (u8s h.2.2.2.2.1.l ++ ([.int .i64 h.2.2.2.2.2.1] ++ [])))))
def rgC (r : Rg) : List Value := u8s r.1.l ++ (u8s r.2.1.l ++ [])
instance flatHd : FlatC Hd hdC := ⟨fun {S cs x} h => (flatProd (α := Dg) (β := Dg × Int × Dg × Dg × Int × Unit)).flat h⟩
instance flatRg : FlatC Rg rgC := ⟨fun {S cs x} h => (flatProd (α := Dg) (β := Dg × Unit)).flat h⟩
abbrev hdV (h : Hd) : Value := .agg (hdC h).toArray
abbrev rgV (r : Rg) : Value := .agg (rgC r).toArray
theorem r_dgx {S : Snap} {d : Dg} (h : d.l.length = 16) : Rep.R S (u8s d.l) d := by exact ⟨h, rl_u8 d.l⟩
structure HdOk (h : Hd) : Prop where
  a : h.1.l.length = 16
  b : h.2.1.l.length = 16
  c : I64 h.2.2.1
  d : h.2.2.2.1.l.length = 16
  e : h.2.2.2.2.1.l.length = 16
  f : I64 h.2.2.2.2.2.1
structure RgOk (r : Rg) : Prop where
  a : r.1.l.length = 16
  b : r.2.1.l.length = 16
theorem r_hd {S : Snap} {h : Hd} (k : HdOk h) : Rep.R S (hdC h) h :=
  prod_mk (r_dgx k.a) (prod_mk (r_dgx k.b) (prod_mk (cs := [_]) ⟨rfl, k.c⟩ (prod_mk (r_dgx k.d) (prod_mk (r_dgx k.e) (prod_mk (cs := [_]) ⟨rfl, k.f⟩ unit_mk)))))
theorem r_rg {S : Snap} {r : Rg} (k : RgOk r) : Rep.R S (rgC r) r := prod_mk (r_dgx k.a) (prod_mk (r_dgx k.b) unit_mk)
def dg0 : Dg := ⟨List.replicate 16 0⟩
def hd0 : Hd := (dg0, dg0, 0, dg0, dg0, 0, ())
def rg0 : Rg := (dg0, dg0, ())
theorem hd0_ok : HdOk hd0 := ⟨rfl, rfl, by unfold I64; exact ⟨by decide, by decide⟩, rfl, rfl, by unfold I64; exact ⟨by decide, by decide⟩⟩
theorem rg0_ok : RgOk rg0 := ⟨rfl, rfl⟩
theorem ev_facts {S : Snap} {cs : List Value} {e : Ev} (h : Rep.R S cs e) : e.1.l.length = 16 ∧ I64 e.2.2.2.2.1 := ⟨h.2.1.1, h.2.2.2.2.2.2.2.2.2.1.2⟩

def startM (m : Dg) : Rg := (⟨dig 7 [encI 0, m.l]⟩, ⟨dig 7 [encI 1, m.l]⟩, ())
theorem startM_ok (m : Dg) : RgOk (startM m) := ⟨dig_len _ _, dig_len _ _⟩
def headM (e : Ev) : Hd := (e.1, ⟨dig 11 [encL e.2.1]⟩, (e.2.2.1.length : Int), rootM (leavesP leafP e.2.2.1), rootM (leavesP noteP e.2.2.2.1), e.2.2.2.2.1, ())
def extM (r : Rg) (h : Hd) : Rg := (⟨dig 9 [r.1.l, h.1.l, encI h.2.2.1, h.2.2.2.1.l, h.2.2.2.2.1.l, encI h.2.2.2.2.2.1]⟩, ⟨dig 9 [r.2.1.l, h.2.1.l]⟩, ())
theorem extM_ok (r : Rg) (h : Hd) : RgOk (extM r h) := ⟨dig_len _ _, dig_len _ _⟩

/-- All of a digest that is data, as a slice. -/
theorem qt_dgSl {S : Snap} {M : List Chunk} {l : List Value} {x : Operand} {p : Value} {d : Dg} (hx : evF l x = p) (hp : Pt S p d) : ∃ v, RSl S v d.l ∧ Qt Tryd.prog l (.slice 23 x none none none) S M v := by
  have h16 : d.l.length = 16 := by obtain ⟨b, o, c, T, fz, _, _, h⟩ := hp; exact h.1
  obtain ⟨v, hv, hq⟩ := qt_arrSliceP (P := Tryd.prog) (M := M) (l := l) (T := 23) (E := 5) (lo := none) (hi := none) (a := 0) (b := 16) hx hp inX inX (.inl ⟨rfl, rfl⟩) (.inl ⟨rfl, rfl⟩) (by omega) (by omega) (by unfold maxLen; omega)
  rw [List.drop_zero, List.take_of_length_le (by omega)] at hv
  exact ⟨v, hv, hq⟩

set_option maxRecDepth 8000 in
set_option maxHeartbeats 1000000 in
theorem head_c {S M} (w : World) (hst : St S M w) (hG : Glob S) (cs : List Value) (ev : Ev) (hR : Rep.R S cs ev) (h1 : ev.2.1.length ≤ 1000) (h2 : ev.2.2.1.length ≤ 1000) (h3 : ev.2.2.2.1.length ≤ 1000) :
    Rets Tryd.prog 21 [.agg cs.toArray] w fun v w' => v = hdV (headM ev) ∧ St S M w' := by
  unfold Rets
  obtain ⟨hs16, hf64⟩ := ev_facts hR
  have hok : HdOk (headM ev) := ⟨hs16, dig_len _ _, by unfold I64; show (-9223372036854775808 : Int) ≤ (ev.2.2.1.length : Int) ∧ (ev.2.2.1.length : Int) ≤ 9223372036854775807; omega, rootM_len _, rootM_len _, hf64⟩
  have hzl : (encL ev.2.1).length ≤ 10 + 10 * ev.2.1.length := encL_len _
  go_enter Tryd.func21, Tryd.ntmps21
  repeat' ((fail_if_success (with_reducible show Code.wp _ (Code.region 1 _ _) _ _ _)); first | ((fail_if_success (go_big_may)); (go_step)) | ((((first | (refine s_box hst evX rfl ?_; clear hst; intro bx w hst) | (refine s_alloc hst inX ?_; clear hst; intro bk w hst)))) <;> (try refine nY ?_) <;> (try replace hst := nH hst)))
  obtain ⟨S1, hS1, hst, hpe⟩ := pt_box (α := Ev) hst.swap hR (Rep.len hR)
  replace hG := hG.mono hS1
  refine v_begin hst (by kernel_rfl) ?_; clear hst; intro ops; (try refine nY ?_)
  ((refine t_ex0 0 rfl (by kernel_rfl) rfl rfl (qt_fieldp evX hpe inX inX rfl ) ?_; rintro  vf hpf)) <;> (try refine nY ?_)
  (refine t_qt 1 rfl (by kernel_rfl) rfl rfl (by exact qt_ldp_flat evX asX inX inX rfl) ?_) <;> (try refine nY ?_)
  ((refine t_ex0 2 rfl (by kernel_rfl) rfl rfl (qt_fieldp evX hpe inX inX rfl ) ?_; rintro  vf hpf)) <;> (try refine nY ?_)
  ((refine t_ex0 3 rfl (by kernel_rfl) rfl rfl (qt_ldp_list evX asX inX ) ?_; rintro  v3 ⟨hv3, hv31⟩)) <;> (try refine nY ?_)
  ((refine t_ex0 7 rfl (by kernel_rfl) rfl rfl (qt_fieldp evX hpe inX inX rfl ) ?_; rintro  vf hpf)) <;> (try refine nY ?_)
  ((refine t_ex0 8 rfl (by kernel_rfl) rfl rfl (qt_ldp_list evX asX inX ) ?_; rintro  v8 ⟨hv8, hv81⟩)) <;> (try refine nY ?_)
  (refine t_qt 9 rfl (by kernel_rfl) rfl rfl (by exact qt_len evX asX inX) ?_) <;> (try refine nY ?_)
  ((refine t_ex0 10 rfl (by kernel_rfl) rfl rfl (qt_fieldp evX hpe inX inX rfl ) ?_; rintro  vf hpf)) <;> (try refine nY ?_)
  ((refine t_ex0 11 rfl (by kernel_rfl) rfl rfl (qt_ldp_list evX asX inX ) ?_; rintro  v11 ⟨hv11, hv111⟩)) <;> (try refine nY ?_)
  ((refine t_ex0 13 rfl (by kernel_rfl) rfl rfl (qt_fieldp evX hpe inX inX rfl ) ?_; rintro  vf hpf)) <;> (try refine nY ?_)
  ((refine t_ex0 14 rfl (by kernel_rfl) rfl rfl (qt_ldp_list evX asX inX ) ?_; rintro  v14 ⟨hv14, hv141⟩)) <;> (try refine nY ?_)
  ((refine t_ex0 16 rfl (by kernel_rfl) rfl rfl (qt_fieldp evX hpe inX inX rfl ) ?_; rintro  vf hpf)) <;> (try refine nY ?_)
  ((refine t_ex0 17 rfl (by kernel_rfl) rfl rfl (qt_ldp_int evX asX inX) ?_; rintro v ⟨rfl, hI⟩)) <;> (try refine nY ?_)
  refine v_one 4 rfl (by kernel_rfl) ?_; intro w hst K hK; refine s_call (encInts_f w hst _ ev.2.1 hv3 (by omega)) inX rfl ?_; clear hst; rintro v4 w ⟨S4, hS4, hv4, hv41, hst⟩; (try refine nY ?_); (try replace hst := nH hst); refine v_next hK hst hS4 (Suf.refl _) ?_; clear hst hK K; (try clear w); (try refine nY ?_)
  refine v_one 5 rfl (by kernel_rfl) ?_; intro w hst K hK; refine s_parts hst (.cons hv4 .nil) inX inX rfl rfl (by omega) ?_; clear hst; intro S5 u5 w hS5 hu5 hu51 hst; (try refine nY ?_); (try replace hst := nH hst); refine v_next hK hst hS5 (Suf.refl _) ?_; clear hst hK K; (try clear w); (try refine nY ?_)
  (refine t_call 6 rfl (by kernel_rfl) rfl (fun S' M' w hS hM hst => digest_c w hst (((hG.mono hS4).mono hS5).mono hS) 11 (by omega) _ _ (hu5.mono hS) (Nat.le_trans (size1 hzl) (by omega))) inX rfl ?_) <;> (try refine nY ?_)
  (refine t_call 12 rfl (by kernel_rfl) rfl (fun S' M' w hS hM hst => rootI_c w hst (((hG.mono hS4).mono hS5).mono hS) _ ev.2.2.1 (((hv11.mono hS4).mono hS5).mono hS) (by omega) _ leafP leafP_len inferInstance (fun w hst hG i t hi ht => pleaf_c w hst hG i t hi ht)) inX rfl ?_) <;> (try refine nY ?_)
  (refine t_call 15 rfl (by kernel_rfl) rfl (fun S' M' w hS hM hst => rootI_c w hst (((hG.mono hS4).mono hS5).mono hS) _ ev.2.2.2.1 (((hv14.mono hS4).mono hS5).mono hS) (by omega) _ noteP noteP_len inferInstance (fun w hst hG i t hi ht => pnote_c w hst hG i t hi ht)) inX rfl ?_) <;> (try refine nY ?_)
  (refine t_qt 18 rfl (by kernel_rfl) rfl rfl (qt_buildF flatHd inX inX (r_hd hd0_ok) (.cons (k := 0) (v := dgV (headM ev).1) (y := (headM ev).1) (r_dgx hok.a) rfl (.cons (k := 1) (v := dgV (headM ev).2.1) (y := (headM ev).2.1) (r_dgx hok.b) rfl (.cons (k := 2) (v := .int .i64 (headM ev).2.2.1) (y := (headM ev).2.2.1) ⟨rfl, hok.c⟩ rfl (.cons (k := 3) (v := dgV (headM ev).2.2.2.1) (y := (headM ev).2.2.2.1) (r_dgx hok.d) rfl (.cons (k := 4) (v := dgV (headM ev).2.2.2.2.1) (y := (headM ev).2.2.2.2.1) (r_dgx hok.e) rfl (.cons (k := 5) (v := .int .i64 (headM ev).2.2.2.2.2.1) (y := (headM ev).2.2.2.2.2.1) ⟨rfl, hok.f⟩ rfl .nil))))))) ?_) <;> (try refine nY ?_)
  refine v_one 19 rfl (by kernel_rfl) ?_; intro w hst K hK; refine s_stW0 hst rfl BoxIn.h inX (x0 := headM ev) (cs := hdC (headM ev)) evX (r_hd hok) rfl ?_; clear hst; intro w hst; (try refine nY ?_); (try replace hst := nH hst); refine v_last hK hst ?_; clear hst hK K; (try clear w); (try refine nY ?_)
  refine v_done (by kernel_rfl) ?_; clear ops; intro w hst
  repeat' (((fail_if_success (go_big_may)); (go_step)))
  exact ret_F rfl hst rfl BoxIn.h inX (r_hd hok) ⟨_, rfl, rfl, St.weaken ((hS1.trans hS4).trans hS5) hst.drop⟩
end Go.Proofs.YtgihhhdeoaplhaaDoor

/- Package register: starts, extensions, walked. -/
--@u32
--@hgp
--@flat
--@dg
--@ex0
namespace Go.Proofs.YtgihhhdeoaplhaaDoor
set_option linter.unusedSimpArgs false
set_option linter.unusedVariables false
open Go.RowKit Go.Sl

set_option maxRecDepth 8000 in
set_option maxHeartbeats 1000000 in
theorem start1_c {S M} (w : World) (hst : St S M w) (hG : Glob S) (p : Value) (m : Dg) (hp : Pt S p m) (i : Int) (hi : I64 i) :
    Rets Tryd.prog 64 [.int .i64 i, p] w fun v w' => v = .agg (u8s (dig 7 [encI i, m.l])).toArray ∧ St S M w' := by
  unfold Rets
  haveI : LenIs (dig 7 [encI i, m.l]) 16 := ⟨dig_len _ _⟩
  have hm16 : m.l.length = 16 := by obtain ⟨b, o, c, T, fz, _, _, h⟩ := hp; exact h.1
  have hpo := hp
  obtain ⟨b0, o0, c0, T0, fz0, rfl, _, _⟩ := hpo
  go_enter Tryd.func64, Tryd.ntmps64
  repeat' (first | ((fail_if_success (go_big_may)); (go_step)) | (((((refine s_alloc hst inX ?_; clear hst; intro bk w hst)))) <;> (try refine nY ?_) <;> (try replace hst := nH hst)))
  refine v_begin hst (by kernel_rfl) ?_; clear hst; intro ops; (try refine nY ?_)
  (refine t_qt 0 rfl (by kernel_rfl) rfl rfl (by exact qt_move evX) ?_) <;> (try refine nY ?_)
  ((refine t_ex0 2 rfl (by kernel_rfl) rfl rfl (qt_dgSl evX hp ) ?_; rintro  v2 hv2)) <;> (try refine nY ?_)
  refine v_one 1 rfl (by kernel_rfl) ?_; intro w hst K hK; refine s_call (int_f w hst i hi) inX rfl ?_; clear hst; rintro v1 w ⟨S1, hS1, hv1, hv11, hst⟩; replace hv2 := hv2.mono hS1; (try refine nY ?_); (try replace hst := nH hst); refine v_next hK hst hS1 (Suf.refl _) ?_; clear hst hK K; (try clear w); (try refine nY ?_)
  refine v_one 3 rfl (by kernel_rfl) ?_; intro w hst K hK; refine s_parts hst (.cons hv1 (.cons hv2 .nil)) inX inX rfl rfl (by omega) ?_; clear hst; intro S3 u3 w hS3 hu3 hu31 hst; (try refine nY ?_); (try replace hst := nH hst); refine v_next hK hst hS3 (Suf.refl _) ?_; clear hst hK K; (try clear w); (try refine nY ?_)
  (refine t_call 4 rfl (by kernel_rfl) rfl (fun S' M' w hS hM hst => digest_c w hst (((hG.mono hS1).mono hS3).mono hS) 7 (by omega) _ _ (hu3.mono hS) (Nat.le_trans (size2 (encI_len i) (Nat.le_of_eq hm16)) (by omega))) inX rfl ?_) <;> (try refine nY ?_)
  refine v_one 5 rfl (by kernel_rfl) ?_; intro w hst K hK; (refine s_stD hst rfl BoxIn.h inX evX inX lenX ?_); clear hst; intro w hst; (try refine nY ?_); (try replace hst := nH hst); refine v_last hK hst ?_; clear hst hK K; (try clear w); (try refine nY ?_)
  refine v_done (by kernel_rfl) ?_; clear ops; intro w hst
  repeat' (((fail_if_success (go_big_may)); (go_step)))
  exact ret_D rfl hst rfl BoxIn.h inX inX ⟨_, rfl, rfl, St.weaken (hS1.trans hS3) hst.drop⟩

set_option maxRecDepth 8000 in
set_option maxHeartbeats 1000000 in
theorem start_c {S M} (w : World) (hst : St S M w) (hG : Glob S) (m : Dg) (hm : m.l.length = 16) :
    Rets Tryd.prog 38 [dgV m] w fun v w' => v = rgV (startM m) ∧ St S M w' := by
  unfold Rets
  have c0 := fun {S : Snap} {M : List Chunk} (w : World) (hst : St S M w) (hG : Glob S) (p : Value) (hp : Pt S p m) => start1_c w hst hG p m hp 0 (by unfold I64; omega)
  have c1 := fun {S : Snap} {M : List Chunk} (w : World) (hst : St S M w) (hG : Glob S) (p : Value) (hp : Pt S p m) => start1_c w hst hG p m hp 1 (by unfold I64; omega)
  have hX : Hid (startM m = (⟨dig 7 [encI 0, m.l]⟩, ⟨dig 7 [encI 1, m.l]⟩, ())) := Lib.hid rfl
  have l0 : (dig 7 [encI 0, m.l]).length = 16 := dig_len _ _
  have l1 : (dig 7 [encI 1, m.l]).length = 16 := dig_len _ _
  generalize dig 7 [encI 0, m.l] = D0 at *
  generalize dig 7 [encI 1, m.l] = D1 at *
  have hok : RgOk (⟨D0⟩, ⟨D1⟩, ()) := ⟨l0, l1⟩
  go_enter Tryd.func38, Tryd.ntmps38
  repeat' ((fail_if_success (with_reducible show Code.wp _ (Code.region 1 _ _) _ _ _)); first | ((fail_if_success (go_big_may)); (go_step)) | ((((first | (refine s_box hst evX rfl ?_; clear hst; intro bx w hst) | (refine s_alloc hst inX ?_; clear hst; intro bk w hst)))) <;> (try refine nY ?_) <;> (try replace hst := nH hst)))
  obtain ⟨S1, hS1, hst, hp⟩ := pt_box (α := Dg) hst.swap (r_dgx hm) (by rw [u8s_length]; exact hm)
  replace hG := hG.mono hS1
  have hrk : Rep.R S1 (rgC (⟨D0⟩, ⟨D1⟩, ())) ((⟨D0⟩, ⟨D1⟩, ()) : Rg) := r_rg hok
  repeat' (first | (((with_reducible (refine Sl.k_build ?_; with_unfolding_all refine s_qt hst (qt_buildF flatRg inX inX (r_rg rg0_ok) (.cons (k := 0) (v := dgV ⟨D0⟩) (y := (⟨D0⟩ : Dg)) (r_dgx l0) rfl (.cons (k := 1) (v := dgV ⟨D1⟩) (y := (⟨D1⟩ : Dg)) (r_dgx l1) rfl .nil))) ?_))) <;> (try refine nY ?_)) | (((with_reducible refine Sl.k_call ?_; (first | (refine s_callv (c0 _ hst hG _ hp) rfl inX rfl rfl ?_; clear hst; rintro v w ⟨rfl, hst⟩) | (refine s_callv (c1 _ hst hG _ hp) rfl inX rfl rfl ?_; clear hst; rintro v w ⟨rfl, hst⟩)))) <;> (try refine nY ?_) <;> (try replace hst := nH hst)) | ((fail_if_success (go_big_may)); (go_step)) | (with_reducible refine Sl.gate rfl ?_; (go_step)))
  refine s_stW0 hst rfl BoxIn.h inX (x0 := ((⟨D0⟩, ⟨D1⟩, ()) : Rg)) (cs := rgC (⟨D0⟩, ⟨D1⟩, ())) evX (r_rg hok) rfl ?_
  clear hst; intro w hst
  (try refine nY ?_)
  (try replace hst := nH hst)
  repeat' (((fail_if_success (go_big_may)); (go_step)))
  exact ret_F rfl hst rfl BoxIn.h inX (r_rg hok) ⟨_, rfl, by rw [hX.out], St.weaken hS1 hst.drop⟩

end Go.Proofs.YtgihhhdeoaplhaaDoor

/- Package register: extensions, walked. -/
--@u32
--@hgp
--@flat
--@dg
--@ex0
namespace Go.Proofs.YtgihhhdeoaplhaaDoor
set_option linter.unusedSimpArgs false
set_option linter.unusedVariables false
open Go.RowKit Go.Sl

set_option maxRecDepth 8000 in
set_option maxHeartbeats 6000000 in
theorem extend_c {S M} (w : World) (hst : St S M w) (hG : Glob S) (r : Rg) (hr : RgOk r) (h : Hd) (hh : HdOk h) :
    Rets Tryd.prog 39 [rgV r, hdV h] w fun v w' => v = rgV (extM r h) ∧ St S M w' := by
  unfold Rets
  have hX : Hid (extM r h = (⟨dig 9 [r.1.l, h.1.l, encI h.2.2.1, h.2.2.2.1.l, h.2.2.2.2.1.l, encI h.2.2.2.2.2.1]⟩, ⟨dig 9 [r.2.1.l, h.2.1.l]⟩, ())) := Lib.hid rfl
  have hl1 := hr.a
  have hl2 := hr.b
  have hl3 := hh.a
  have hl4 := hh.b
  have hl5 := hh.d
  have hl6 := hh.e
  have hi1 := hh.c
  have hi2 := hh.f
  have he1 := encI_len h.2.2.1
  have he2 := encI_len h.2.2.2.2.2.1
  have cA := fun {S : Snap} {M : List Chunk} (w : World) (hst : St S M w) (hG : Glob S) (vp : Value) (hp : RSl S vp [r.1.l, h.1.l, encI h.2.2.1, h.2.2.2.1.l, h.2.2.2.2.1.l, encI h.2.2.2.2.2.1]) => digest_c w hst hG 9 (by omega) vp _ hp (by simp [sizeB]; omega)
  have cB := fun {S : Snap} {M : List Chunk} (w : World) (hst : St S M w) (hG : Glob S) (vp : Value) (hp : RSl S vp [r.2.1.l, h.2.1.l]) => digest_c w hst hG 9 (by omega) vp _ hp (by simp [sizeB]; omega)
  have l0 : (dig 9 [r.1.l, h.1.l, encI h.2.2.1, h.2.2.2.1.l, h.2.2.2.2.1.l, encI h.2.2.2.2.2.1]).length = 16 := dig_len _ _
  have l1 : (dig 9 [r.2.1.l, h.2.1.l]).length = 16 := dig_len _ _
  generalize dig 9 [r.1.l, h.1.l, encI h.2.2.1, h.2.2.2.1.l, h.2.2.2.2.1.l, encI h.2.2.2.2.2.1] = D0 at *
  generalize dig 9 [r.2.1.l, h.2.1.l] = D1 at *
  have hx : RgOk (⟨D0⟩, ⟨D1⟩, ()) := ⟨l0, l1⟩
  go_enter Tryd.func39, Tryd.ntmps39
  repeat' ((fail_if_success (with_reducible show Code.wp _ (Code.region 1 _ _) _ _ _)); first | ((fail_if_success (go_big_may)); (go_step)) | ((((first | (refine s_box hst evX rfl ?_; clear hst; intro bx w hst) | (refine s_alloc hst inX ?_; clear hst; intro bk w hst)))) <;> (try refine nY ?_) <;> (try replace hst := nH hst)))
  obtain ⟨S1, hS1, hst, hph⟩ := pt_box (α := Hd) (hst.perm (List.Perm.swap _ _ _)) (r_hd hh) (Rep.len (S := S) (r_hd hh))
  obtain ⟨S2, hS2, hst, hpr⟩ := pt_box (α := Rg) hst.swap (r_rg hr) (Rep.len (S := S) (r_rg hr))
  replace hph := hph.mono hS2
  replace hG := (hG.mono hS1).mono hS2
  have hle := Snap.Le.refl S2
  refine v_begin hst (by kernel_rfl) ?_; clear hst; intro ops; (try refine nY ?_)
  ((refine t_ex0 0 rfl (by kernel_rfl) rfl rfl (qt_fieldp evX hpr inX inX rfl ) ?_; rintro  vf hpf)) <;> (try refine nY ?_)
  ((refine t_ex0 1 rfl (by kernel_rfl) rfl rfl (qt_dgSl evX asX ) ?_; rintro  v1 hv1)) <;> (try refine nY ?_)
  ((refine t_ex0 2 rfl (by kernel_rfl) rfl rfl (qt_fieldp evX hph inX inX rfl ) ?_; rintro  vf hpf)) <;> (try refine nY ?_)
  ((refine t_ex0 3 rfl (by kernel_rfl) rfl rfl (qt_dgSl evX asX ) ?_; rintro  v3 hv3)) <;> (try refine nY ?_)
  ((refine t_ex0 4 rfl (by kernel_rfl) rfl rfl (qt_fieldp evX hph inX inX rfl ) ?_; rintro  vf hpf)) <;> (try refine nY ?_)
  ((refine t_ex0 5 rfl (by kernel_rfl) rfl rfl (qt_ldp_int evX asX inX) ?_; rintro v ⟨rfl, hI⟩)) <;> (try refine nY ?_)
  ((refine t_ex0 7 rfl (by kernel_rfl) rfl rfl (qt_fieldp evX hph inX inX rfl ) ?_; rintro  vf hpf)) <;> (try refine nY ?_)
  ((refine t_ex0 8 rfl (by kernel_rfl) rfl rfl (qt_dgSl evX asX ) ?_; rintro  v8 hv8)) <;> (try refine nY ?_)
  ((refine t_ex0 9 rfl (by kernel_rfl) rfl rfl (qt_fieldp evX hph inX inX rfl ) ?_; rintro  vf hpf)) <;> (try refine nY ?_)
  ((refine t_ex0 10 rfl (by kernel_rfl) rfl rfl (qt_dgSl evX asX ) ?_; rintro  v10 hv10)) <;> (try refine nY ?_)
  ((refine t_ex0 11 rfl (by kernel_rfl) rfl rfl (qt_fieldp evX hph inX inX rfl ) ?_; rintro  vf hpf)) <;> (try refine nY ?_)
  ((refine t_ex0 12 rfl (by kernel_rfl) rfl rfl (qt_ldp_int evX asX inX) ?_; rintro v ⟨rfl, hI⟩)) <;> (try refine nY ?_)
  ((refine t_ex0 16 rfl (by kernel_rfl) rfl rfl (qt_fieldp evX hpr inX inX rfl ) ?_; rintro  vf hpf)) <;> (try refine nY ?_)
  ((refine t_ex0 17 rfl (by kernel_rfl) rfl rfl (qt_dgSl evX asX ) ?_; rintro  v17 hv17)) <;> (try refine nY ?_)
  ((refine t_ex0 18 rfl (by kernel_rfl) rfl rfl (qt_fieldp evX hph inX inX rfl ) ?_; rintro  vf hpf)) <;> (try refine nY ?_)
  ((refine t_ex0 19 rfl (by kernel_rfl) rfl rfl (qt_dgSl evX asX ) ?_; rintro  v19 hv19)) <;> (try refine nY ?_)
  refine v_two 6 20 rfl rfl (by kernel_rfl) ?_ ?_
  intro w hst K hK; refine s_call (int_f w hst _ hi1) inX rfl ?_; clear hst; rintro v6 w ⟨S6, hS6, hv6, hv61, hst⟩; replace hG := hG.mono hS6; replace hle := hle.trans hS6; replace hv1 := hv1.mono hS6; replace hv3 := hv3.mono hS6; replace hv8 := hv8.mono hS6; replace hv10 := hv10.mono hS6; (try replace hv17 := hv17.mono hS6); (try replace hv19 := hv19.mono hS6); (try replace hv20 := hv20.mono hS6); (try refine nY ?_); (try replace hst := nH hst); refine v_next hK hst hS6 (Suf.refl _) ?_; clear hst hK K; (try clear w); (try refine nY ?_)
  refine v_two 13 20 rfl rfl (by kernel_rfl) ?_ ?_
  intro w hst K hK; refine s_call (int_f w hst _ hi2) inX rfl ?_; clear hst; rintro v13 w ⟨S13, hS13, hv13, hv131, hst⟩; replace hG := hG.mono hS13; replace hle := hle.trans hS13; replace hv1 := hv1.mono hS13; replace hv3 := hv3.mono hS13; replace hv8 := hv8.mono hS13; replace hv10 := hv10.mono hS13; (try replace hv6 := hv6.mono hS13); (try replace hv17 := hv17.mono hS13); (try replace hv19 := hv19.mono hS13); (try replace hv20 := hv20.mono hS13); (try refine nY ?_); (try replace hst := nH hst); refine v_next hK hst hS13 (Suf.refl _) ?_; clear hst hK K; (try clear w); (try refine nY ?_)
  refine v_two 14 20 rfl rfl (by kernel_rfl) ?_ ?_
  intro w hst K hK; refine s_parts hst (.cons hv1 (.cons hv3 (.cons hv6 (.cons hv8 (.cons hv10 (.cons hv13 .nil)))))) inX inX rfl rfl (by omega) ?_; clear hst; intro S14 v14 w hS14 hv14 hv141 hst; replace hG := hG.mono hS14; replace hle := hle.trans hS14; replace hv1 := hv1.mono hS14; replace hv3 := hv3.mono hS14; replace hv8 := hv8.mono hS14; replace hv10 := hv10.mono hS14; (try replace hv17 := hv17.mono hS14); (try replace hv19 := hv19.mono hS14); (try replace hv20 := hv20.mono hS14); (try refine nY ?_); (try replace hst := nH hst); refine v_next hK hst hS14 (Suf.refl _) ?_; clear hst hK K; (try clear w); (try refine nY ?_)
  (refine t_call 15 rfl (by kernel_rfl) rfl (fun S' M' w hS hM hst => cA w hst (hG.mono hS) _ (hv14.mono hS)) inX rfl ?_) <;> (try refine nY ?_)
  refine v_one 20 rfl (by kernel_rfl) ?_; intro w hst K hK; refine s_parts hst (.cons hv17 (.cons hv19 .nil)) inX inX rfl rfl (by omega) ?_; clear hst; intro S20 v20 w hS20 hv20 hv201 hst; replace hG := hG.mono hS20; replace hle := hle.trans hS20; replace hv1 := hv1.mono hS20; replace hv3 := hv3.mono hS20; replace hv8 := hv8.mono hS20; replace hv10 := hv10.mono hS20; (try replace hv6 := hv6.mono hS20); (try replace hv13 := hv13.mono hS20); (try replace hv14 := hv14.mono hS20); (try refine nY ?_); (try replace hst := nH hst); refine v_next hK hst hS20 (Suf.refl _) ?_; clear hst hK K; (try clear w); (try refine nY ?_)
  (refine t_call 21 rfl (by kernel_rfl) rfl (fun S' M' w hS hM hst => cB w hst (hG.mono hS) _ (hv20.mono hS)) inX rfl ?_) <;> (try refine nY ?_)
  (refine t_qt 22 rfl (by kernel_rfl) rfl rfl (qt_buildF flatRg inX inX (r_rg rg0_ok) (.cons (k := 0) (v := dgV ⟨D0⟩) (y := (⟨D0⟩ : Dg)) (r_dgx l0) rfl (.cons (k := 1) (v := dgV ⟨D1⟩) (y := (⟨D1⟩ : Dg)) (r_dgx l1) rfl .nil))) ?_) <;> (try refine nY ?_)
  refine v_one 23 rfl (by kernel_rfl) ?_; intro w hst K hK; refine s_stW0 hst rfl BoxIn.h inX (x0 := ((⟨D0⟩, ⟨D1⟩, ()) : Rg)) (cs := rgC (⟨D0⟩, ⟨D1⟩, ())) evX (r_rg hx) rfl ?_; clear hst; intro w hst; (try refine nY ?_); (try replace hst := nH hst); refine v_last hK hst ?_; clear hst hK K; (try clear w); (try refine nY ?_)
  refine v_done (by kernel_rfl) ?_; clear ops; intro w hst; rotate_left
  intro w hst K hK; refine s_parts hst (.cons hv17 (.cons hv19 .nil)) inX inX rfl rfl (by omega) ?_; clear hst; intro S20 v20 w hS20 hv20 hv201 hst; replace hG := hG.mono hS20; replace hle := hle.trans hS20; replace hv1 := hv1.mono hS20; replace hv3 := hv3.mono hS20; replace hv8 := hv8.mono hS20; replace hv10 := hv10.mono hS20; (try replace hv6 := hv6.mono hS20); (try replace hv13 := hv13.mono hS20); (try replace hv14 := hv14.mono hS20); (try refine nY ?_); (try replace hst := nH hst); refine v_next hK hst hS20 (Suf.refl _) ?_; clear hst hK K; (try clear w); (try refine nY ?_)
  refine v_one 14 rfl (by kernel_rfl) ?_; intro w hst K hK; refine s_parts hst (.cons hv1 (.cons hv3 (.cons hv6 (.cons hv8 (.cons hv10 (.cons hv13 .nil)))))) inX inX rfl rfl (by omega) ?_; clear hst; intro S14 v14 w hS14 hv14 hv141 hst; replace hG := hG.mono hS14; replace hle := hle.trans hS14; replace hv1 := hv1.mono hS14; replace hv3 := hv3.mono hS14; replace hv8 := hv8.mono hS14; replace hv10 := hv10.mono hS14; (try replace hv17 := hv17.mono hS14); (try replace hv19 := hv19.mono hS14); (try replace hv20 := hv20.mono hS14); (try refine nY ?_); (try replace hst := nH hst); refine v_next hK hst hS14 (Suf.refl _) ?_; clear hst hK K; (try clear w); (try refine nY ?_)
  (refine t_call 15 rfl (by kernel_rfl) rfl (fun S' M' w hS hM hst => cA w hst (hG.mono hS) _ (hv14.mono hS)) inX rfl ?_) <;> (try refine nY ?_)
  (refine t_call 21 rfl (by kernel_rfl) rfl (fun S' M' w hS hM hst => cB w hst (hG.mono hS) _ (hv20.mono hS)) inX rfl ?_) <;> (try refine nY ?_)
  (refine t_qt 22 rfl (by kernel_rfl) rfl rfl (qt_buildF flatRg inX inX (r_rg rg0_ok) (.cons (k := 0) (v := dgV ⟨D0⟩) (y := (⟨D0⟩ : Dg)) (r_dgx l0) rfl (.cons (k := 1) (v := dgV ⟨D1⟩) (y := (⟨D1⟩ : Dg)) (r_dgx l1) rfl .nil))) ?_) <;> (try refine nY ?_)
  refine v_one 23 rfl (by kernel_rfl) ?_; intro w hst K hK; refine s_stW0 hst rfl BoxIn.h inX (x0 := ((⟨D0⟩, ⟨D1⟩, ()) : Rg)) (cs := rgC (⟨D0⟩, ⟨D1⟩, ())) evX (r_rg hx) rfl ?_; clear hst; intro w hst; (try refine nY ?_); (try replace hst := nH hst); refine v_last hK hst ?_; clear hst hK K; (try clear w); (try refine nY ?_)
  refine v_done (by kernel_rfl) ?_; clear ops; intro w hst; rotate_left
  intro w hst K hK; refine s_parts hst (.cons hv17 (.cons hv19 .nil)) inX inX rfl rfl (by omega) ?_; clear hst; intro S20 v20 w hS20 hv20 hv201 hst; replace hG := hG.mono hS20; replace hle := hle.trans hS20; replace hv1 := hv1.mono hS20; replace hv3 := hv3.mono hS20; replace hv8 := hv8.mono hS20; replace hv10 := hv10.mono hS20; (try replace hv6 := hv6.mono hS20); (try replace hv13 := hv13.mono hS20); (try replace hv14 := hv14.mono hS20); (try refine nY ?_); (try replace hst := nH hst); refine v_next hK hst hS20 (Suf.refl _) ?_; clear hst hK K; (try clear w); (try refine nY ?_)
  refine v_one 13 rfl (by kernel_rfl) ?_; intro w hst K hK; refine s_call (int_f w hst _ hi2) inX rfl ?_; clear hst; rintro v13 w ⟨S13, hS13, hv13, hv131, hst⟩; replace hG := hG.mono hS13; replace hle := hle.trans hS13; replace hv1 := hv1.mono hS13; replace hv3 := hv3.mono hS13; replace hv8 := hv8.mono hS13; replace hv10 := hv10.mono hS13; (try replace hv6 := hv6.mono hS13); (try replace hv17 := hv17.mono hS13); (try replace hv19 := hv19.mono hS13); (try replace hv20 := hv20.mono hS13); (try refine nY ?_); (try replace hst := nH hst); refine v_next hK hst hS13 (Suf.refl _) ?_; clear hst hK K; (try clear w); (try refine nY ?_)
  refine v_one 14 rfl (by kernel_rfl) ?_; intro w hst K hK; refine s_parts hst (.cons hv1 (.cons hv3 (.cons hv6 (.cons hv8 (.cons hv10 (.cons hv13 .nil)))))) inX inX rfl rfl (by omega) ?_; clear hst; intro S14 v14 w hS14 hv14 hv141 hst; replace hG := hG.mono hS14; replace hle := hle.trans hS14; replace hv1 := hv1.mono hS14; replace hv3 := hv3.mono hS14; replace hv8 := hv8.mono hS14; replace hv10 := hv10.mono hS14; (try replace hv17 := hv17.mono hS14); (try replace hv19 := hv19.mono hS14); (try replace hv20 := hv20.mono hS14); (try refine nY ?_); (try replace hst := nH hst); refine v_next hK hst hS14 (Suf.refl _) ?_; clear hst hK K; (try clear w); (try refine nY ?_)
  (refine t_call 15 rfl (by kernel_rfl) rfl (fun S' M' w hS hM hst => cA w hst (hG.mono hS) _ (hv14.mono hS)) inX rfl ?_) <;> (try refine nY ?_)
  (refine t_call 21 rfl (by kernel_rfl) rfl (fun S' M' w hS hM hst => cB w hst (hG.mono hS) _ (hv20.mono hS)) inX rfl ?_) <;> (try refine nY ?_)
  (refine t_qt 22 rfl (by kernel_rfl) rfl rfl (qt_buildF flatRg inX inX (r_rg rg0_ok) (.cons (k := 0) (v := dgV ⟨D0⟩) (y := (⟨D0⟩ : Dg)) (r_dgx l0) rfl (.cons (k := 1) (v := dgV ⟨D1⟩) (y := (⟨D1⟩ : Dg)) (r_dgx l1) rfl .nil))) ?_) <;> (try refine nY ?_)
  refine v_one 23 rfl (by kernel_rfl) ?_; intro w hst K hK; refine s_stW0 hst rfl BoxIn.h inX (x0 := ((⟨D0⟩, ⟨D1⟩, ()) : Rg)) (cs := rgC (⟨D0⟩, ⟨D1⟩, ())) evX (r_rg hx) rfl ?_; clear hst; intro w hst; (try refine nY ?_); (try replace hst := nH hst); refine v_last hK hst ?_; clear hst hK K; (try clear w); (try refine nY ?_)
  refine v_done (by kernel_rfl) ?_; clear ops; intro w hst; rotate_left
  intro w hst K hK; refine s_parts hst (.cons hv17 (.cons hv19 .nil)) inX inX rfl rfl (by omega) ?_; clear hst; intro S20 v20 w hS20 hv20 hv201 hst; replace hG := hG.mono hS20; replace hle := hle.trans hS20; replace hv1 := hv1.mono hS20; replace hv3 := hv3.mono hS20; replace hv8 := hv8.mono hS20; replace hv10 := hv10.mono hS20; (try replace hv6 := hv6.mono hS20); (try replace hv13 := hv13.mono hS20); (try replace hv14 := hv14.mono hS20); (try refine nY ?_); (try replace hst := nH hst); refine v_next hK hst hS20 (Suf.refl _) ?_; clear hst hK K; (try clear w); (try refine nY ?_)
  refine v_one 6 rfl (by kernel_rfl) ?_; intro w hst K hK; refine s_call (int_f w hst _ hi1) inX rfl ?_; clear hst; rintro v6 w ⟨S6, hS6, hv6, hv61, hst⟩; replace hG := hG.mono hS6; replace hle := hle.trans hS6; replace hv1 := hv1.mono hS6; replace hv3 := hv3.mono hS6; replace hv8 := hv8.mono hS6; replace hv10 := hv10.mono hS6; (try replace hv17 := hv17.mono hS6); (try replace hv19 := hv19.mono hS6); (try replace hv20 := hv20.mono hS6); (try refine nY ?_); (try replace hst := nH hst); refine v_next hK hst hS6 (Suf.refl _) ?_; clear hst hK K; (try clear w); (try refine nY ?_)
  refine v_one 13 rfl (by kernel_rfl) ?_; intro w hst K hK; refine s_call (int_f w hst _ hi2) inX rfl ?_; clear hst; rintro v13 w ⟨S13, hS13, hv13, hv131, hst⟩; replace hG := hG.mono hS13; replace hle := hle.trans hS13; replace hv1 := hv1.mono hS13; replace hv3 := hv3.mono hS13; replace hv8 := hv8.mono hS13; replace hv10 := hv10.mono hS13; (try replace hv6 := hv6.mono hS13); (try replace hv17 := hv17.mono hS13); (try replace hv19 := hv19.mono hS13); (try replace hv20 := hv20.mono hS13); (try refine nY ?_); (try replace hst := nH hst); refine v_next hK hst hS13 (Suf.refl _) ?_; clear hst hK K; (try clear w); (try refine nY ?_)
  refine v_one 14 rfl (by kernel_rfl) ?_; intro w hst K hK; refine s_parts hst (.cons hv1 (.cons hv3 (.cons hv6 (.cons hv8 (.cons hv10 (.cons hv13 .nil)))))) inX inX rfl rfl (by omega) ?_; clear hst; intro S14 v14 w hS14 hv14 hv141 hst; replace hG := hG.mono hS14; replace hle := hle.trans hS14; replace hv1 := hv1.mono hS14; replace hv3 := hv3.mono hS14; replace hv8 := hv8.mono hS14; replace hv10 := hv10.mono hS14; (try replace hv17 := hv17.mono hS14); (try replace hv19 := hv19.mono hS14); (try replace hv20 := hv20.mono hS14); (try refine nY ?_); (try replace hst := nH hst); refine v_next hK hst hS14 (Suf.refl _) ?_; clear hst hK K; (try clear w); (try refine nY ?_)
  (refine t_call 15 rfl (by kernel_rfl) rfl (fun S' M' w hS hM hst => cA w hst (hG.mono hS) _ (hv14.mono hS)) inX rfl ?_) <;> (try refine nY ?_)
  (refine t_call 21 rfl (by kernel_rfl) rfl (fun S' M' w hS hM hst => cB w hst (hG.mono hS) _ (hv20.mono hS)) inX rfl ?_) <;> (try refine nY ?_)
  (refine t_qt 22 rfl (by kernel_rfl) rfl rfl (qt_buildF flatRg inX inX (r_rg rg0_ok) (.cons (k := 0) (v := dgV ⟨D0⟩) (y := (⟨D0⟩ : Dg)) (r_dgx l0) rfl (.cons (k := 1) (v := dgV ⟨D1⟩) (y := (⟨D1⟩ : Dg)) (r_dgx l1) rfl .nil))) ?_) <;> (try refine nY ?_)
  refine v_one 23 rfl (by kernel_rfl) ?_; intro w hst K hK; refine s_stW0 hst rfl BoxIn.h inX (x0 := ((⟨D0⟩, ⟨D1⟩, ()) : Rg)) (cs := rgC (⟨D0⟩, ⟨D1⟩, ())) evX (r_rg hx) rfl ?_; clear hst; intro w hst; (try refine nY ?_); (try replace hst := nH hst); refine v_last hK hst ?_; clear hst hK K; (try clear w); (try refine nY ?_)
  refine v_done (by kernel_rfl) ?_; clear ops; intro w hst; rotate_left
  all_goals
    repeat' (((fail_if_success (go_big_may)); (go_step)))
    exact ret_F rfl hst rfl BoxIn.h inX (r_rg hx) ⟨_, rfl, by rw [hX.out], St.weaken ((hS1.trans hS2).trans hle) hst.drop⟩
end Go.Proofs.YtgihhhdeoaplhaaDoor

/- Package register: logs folded, walked. -/
--@u32
--@hgp
--@flat
--@dg
--@ex0
namespace Go.Proofs.YtgihhhdeoaplhaaDoor
set_option linter.unusedSimpArgs false
set_option linter.unusedVariables false
open Go.RowKit Go.Sl

def foldM (m : Dg) (log : List Ev) : Rg := log.foldl (fun r e => extM r (headM e)) (startM m)
def evOk (e : Ev) : Prop := e.2.1.length ≤ 1000 ∧ e.2.2.1.length ≤ 1000 ∧ e.2.2.2.1.length ≤ 1000
theorem foldl_ok : ∀ (log : List Ev) (r : Rg), RgOk r → RgOk (log.foldl (fun r e => extM r (headM e)) r)
  | [], _, h => h
  | e :: log, r, _ => foldl_ok log _ (extM_ok r (headM e))
theorem foldM_ok (m : Dg) (log : List Ev) : RgOk (foldM m log) := foldl_ok log _ (startM_ok m)
theorem headM_ok {S : Snap} {cs : List Value} {e : Ev} (h : Rep.R S cs e) (k : evOk e) : HdOk (headM e) := by
  obtain ⟨h1, h2⟩ := ev_facts h
  obtain ⟨_, k2, _⟩ := k
  exact ⟨h1, dig_len _ _, by unfold I64; show (-9223372036854775808 : Int) ≤ (e.2.2.1.length : Int) ∧ (e.2.2.1.length : Int) ≤ 9223372036854775807; omega, rootM_len _, rootM_len _, h2⟩

set_option maxRecDepth 8000 in
set_option maxHeartbeats 400000 in
theorem heads_c {S M} (w : World) (hst : St S M w) (vl : Value) (log : List Ev) (hl : RSl S vl log) :
    Rets Tryd.prog 42 [vl] w fun v w' => ∃ S' p, S.Le S' ∧ v = .func (.func 66) #[] #[p] ∧ Pt S' p log ∧ St S' M w' := by
  unfold Rets
  have h1 := hl.oneCell
  go_enter Tryd.func42, Tryd.ntmps42
  repeat' (first | ((fail_if_success (go_big_may)); (go_step)) | (with_reducible refine Sl.gate rfl ?_; (go_step)) | (((((refine s_box hst evX rfl ?_; clear hst; intro bx w hst)))) <;> (try refine nY ?_) <;> (try replace hst := nH hst)))
  refine ret_one rfl (rv_tmp rfl) ?_; (try simp only [nth, List.drop_zero, List.drop_succ_cons, List.take_succ_cons, List.take_zero, vOf_true, vOf_false])
  change St S (.box _ vl.cells.toList _ :: M) w at hst
  rw [cells_one h1] at hst
  obtain ⟨S2, hS2, hst, hps⟩ := pt_box (α := List Ev) (x := log) hst (by exact ⟨vl, rfl, hl⟩) rfl
  exact ⟨_, rfl, S2, _, hS2, rfl, hps, hst⟩

def headOk (log : List Ev) (k : Nat) (vs : List Value) : Prop := ∃ e, log[k]? = some e ∧ vs = [hdV (headM e)]

set_option maxRecDepth 8000 in
set_option maxHeartbeats 1000000 in
theorem heads1_c {S} (hG : Glob S) (log : List Ev) (hm : log.length ≤ 1000) (hok : ∀ e ∈ log, evOk e) (ps : Value) (hs : Pt S ps log) : IterC Tryd.prog S 66 [ps] log.length (headOk log) := by
  intro l MM hY w hst
  go_enter Tryd.func66, Tryd.ntmps66
  repeat' (first | ((fail_if_success (go_big_may)); (go_step)) | ((first | (with_reducible refine Sl.k_load ?_; ((refine s_ex hst (qt_ldp_list evX asX inX) ?_; rintro v ⟨hvl, hv1⟩))) | (with_reducible refine Sl.k_call ?_; (refine s_qt hst (by exact qt_len evX asX inX) ?_))) <;> (try refine nY ?_)))
  go_loopw [7] (fun v wr => ∃ k, k ≤ log.length ∧ v = .int .i64 ((k : Nat) : Int) ∧ St S (MM k) wr) (fun v _ => log.length - (intOf v).toNat)
  case atStart => exact ⟨0, Nat.zero_le _, rfl, hst⟩
  case round =>
    clear hst
    obtain ⟨k, hk, rfl, hst⟩ := hrel
    by_cases hlt : k < log.length
    · have hek := hok log[k] (List.getElem_mem hlt)
      obtain ⟨he1, he2, he3⟩ := hek
      repeat' ((fail_if_success (with_reducible show Code.wp _ (Code.region 3 _ _) _ _ _)); first | ((fail_if_success (go_big_may)); (go_step)) | ((first | (with_reducible refine Sl.k_load ?_; ((refine s_ex hst (qt_ldp evX asX inX) ?_; rintro v ⟨cl, rfl, hcl⟩))) | (with_reducible refine Sl.k_index ?_; (((refine s_ex hst (qt_index evX asX rfl inX inX omX omX) ?_); rintro v hp; (try simp only [Int.toNat_natCast, Int.toNat_natCast_add_one, Int.reduceToNat] at hp))))) <;> (try refine nY ?_)) | (with_reducible refine Sl.gate rfl ?_; (go_step)) | ((((first | (with_reducible refine Sl.k_store ?_; (refine s_stR hst rfl BoxIn.h evX asX inX rfl rfl ?_); clear hst; intro w hst) | (refine s_alloc hst inX ?_; clear hst; intro bk w hst)))) <;> (try refine nY ?_) <;> (try replace hst := nH hst)))
      refine (wpIn_wide (n := 0)).1 (wpIn_region_lit (in_take 3 (.inl rfl) ?_ rfl ?_))
      · rintro ⟨a, w, ⟨v, hv⟩, _⟩
        cases hv
      · simp only [List.take_succ_cons, List.take_zero, List.drop_succ_cons, List.drop_zero]
        repeat' (first | (((with_reducible (refine Sl.k_load ?_; with_unfolding_all refine s_qt hst (qt_loadF (x0 := log[k]) rfl BoxIn.h hcl inX) ?_))) <;> (try refine nY ?_)) | (((with_reducible refine Sl.k_call ?_; ((refine s_call (head_c _ hst hG cl log[k] hcl he1 he2 he3) inX rfl ?_; clear hst; rintro v w ⟨rfl, hst⟩)))) <;> (try refine nY ?_) <;> (try replace hst := nH hst)) | ((fail_if_success (go_big_may)); (go_step)))
        replace hst := hst.drop
        refine in_yield rfl rfl (hY k hlt _ ⟨log[k], List.getElem?_eq_getElem hlt, rfl⟩ _ hst) ?_
        clear hst
        intro w hst
        refine nY ?_
        refine in_plain (.inl rfl) ?_ rfl ?_
        · rintro ⟨a, w, ⟨v, hv⟩, _⟩
          cases hv
        · repeat' (first | ((fail_if_success (go_big_may)); (go_step)) | (with_reducible refine Sl.gate rfl ?_; (go_step)))
          go_roundw
          case rel => exact ⟨k + 1, by omega, by go_num, hst⟩
          case measure => simp [intOf]; omega
    · obtain rfl : k = log.length := by omega
      repeat' (first | ((fail_if_success (go_big_may)); (go_step)) | (with_reducible refine Sl.gate rfl ?_; (go_step)))
      go_end0
      exact ⟨⟨_, rfl⟩, hst⟩

theorem rsl_rep {α : Type} [Rep α] {S : Snap} {v : Value} {xs : List α} (h : RSl S v xs) (x : α) (hx : x ∈ xs) : ∃ cs, Rep.R S cs x := by
  obtain ⟨i, hi, rfl⟩ := List.mem_iff_getElem.1 hx
  rcases h with ⟨ad, cap, _, h, _⟩ | ⟨b, o, cap, c, T, fz, _, _, _, _, h⟩
  · subst h; simp at hi
  · exact ⟨_, h.at_ i hi⟩
theorem foldM_succ (m : Dg) (log : List Ev) {k : Nat} {e : Ev} (h : log[k]? = some e) : foldM m (log.take (k + 1)) = extM (foldM m (log.take k)) (headM e) := by
  obtain ⟨hk, rfl⟩ := List.getElem?_eq_some_iff.1 h
  rw [List.take_succ_eq_append_getElem hk, foldM, List.foldl_append]
  rfl

set_option maxRecDepth 8000 in
set_option maxHeartbeats 1000000 in
theorem fold_c {S M} (w : World) (hst : St S M w) (hG : Glob S) (m : Dg) (hm : m.l.length = 16) (vl : Value) (log : List Ev) (hl : RSl S vl log) (hlen : log.length ≤ 1000) (hok : ∀ e ∈ log, evOk e) :
    Rets Tryd.prog 20 [dgV m, vl] w fun v w' => v = rgV (foldM m log) ∧ St S M w' := by
  unfold Rets
  have hl1 := hl.oneCell
  haveI : LenIs m.l 16 := ⟨hm⟩
  refine rets_marks Tryd.func20 rfl ?_
  simp only [Tryd.ntmps20, List.size_toArray, List.length_cons, List.length_nil, Nat.reduceAdd, Nat.reduceSub, Array.replicate_succ, Array.replicate_zero, List.push_toArray, List.append_toArray, List.nil_append, List.cons_append]
  repeat' (first | (((with_reducible refine Sl.k_call ?_; ((refine s_call (start_c _ hst hG m hm) inX rfl ?_; clear hst; rintro v w ⟨rfl, hst⟩)))) <;> (try refine nY ?_) <;> (try replace hst := nH hst)) | ((fail_if_success (go_big_may)); (go_step)) | (((with_reducible refine Sl.k_load ?_; (refine s_qt hst (by exact qt_loadD evX BoxIn.h inX inX) ?_))) <;> (try refine nY ?_)) | ((((first | (refine s_box hst evX rfl ?_; clear hst; intro bx w hst) | (refine s_alloc hst inX ?_; clear hst; intro bk w hst)))) <;> (try refine nY ?_) <;> (try replace hst := nH hst)))
  refine s_stW0 hst rfl BoxIn.h inX (x0 := startM m) (cs := rgC (startM m)) evX (r_rg (startM_ok m)) rfl ?_
  clear hst; intro w hst
  (try refine nY ?_)
  (try replace hst := nH hst)
  rename Nat => b5
  repeat' (first | (((with_reducible refine Sl.k_call ?_; ((refine s_call (heads_c _ hst vl log hl) inX rfl ?_; clear hst; rintro v w ⟨S2, p, hS2, rfl, hps, hst⟩)))) <;> (try refine nY ?_) <;> (try replace hst := nH hst)) | ((fail_if_success (go_big_may)); (go_step)))
  have hG2 := hG.mono hS2
  have hfs : ∀ k, RgOk (foldM m (log.take k)) := fun k => foldM_ok m _
  have hhd : ∀ e ∈ log, HdOk (headM e) := fun e he => by
    obtain ⟨cs, hR⟩ := rsl_rep hl e he
    exact headM_ok hR (hok e he)
  refine s_rangeB (I := fun k => [.box b5 (rgC (foldM m (log.take k))) 40]) (M0 := _) hst rfl inX (heads1_c hG2 log hlen hok p hps) inX ?_ (by simp) (by simp) (by decide) ?_ ?_
  · rintro k vs ⟨e, he, rfl⟩
    have hr : Rep.R S (hdC (headM e)) (headM e) := r_hd (hhd e (List.mem_of_getElem? he))
    exact ⟨hdC (headM e), rfl, Rep.len hr, List.all_eq_true.2 (Rep.one hr)⟩
  · clear hst
    rintro r k b cs C w hk ⟨e, he, hvc⟩ hst
    have hcs : cs = hdC (headM e) := by
      have := (List.cons.inj hvc).1
      simpa using this
    subst hcs
    have hhe := hhd e (List.mem_of_getElem? he)
    have hsu := Lib.hid (foldM_succ m log he)
    have hfk := hfs k
    have hfk1 := hfs (k + 1)
    rw [hsu.out] at hfk1
    simp only [List.cons_append, List.nil_append] at hst
    generalize foldM m (log.take k) = F at *
    generalize headM e = E at *
    have hrF : Rep.R S2 (rgC F) F := r_rg hfk
    have hrE : Rep.R S2 (hdC E) E := r_hd hhe
    (try refine nY ?_)
    refine wpIn_block (regionIn (.inr ⟨r, rfl⟩) ?_ rfl ?_)
    · rintro ⟨a, w, h, _⟩
      cases h
    · repeat' (first | (((with_reducible (refine Sl.k_load ?_; with_unfolding_all refine s_qt hst (by first | exact qt_loadF (x0 := F) rfl BoxIn.h hrF inX | exact qt_loadF (x0 := E) rfl BoxIn.h hrE inX) ?_))) <;> (try refine nY ?_)) | (((with_reducible refine Sl.k_call ?_; ((refine s_call (extend_c _ hst hG2 F hfk E hhe) inX rfl ?_; clear hst; rintro v w ⟨rfl, hst⟩)))) <;> (try refine nY ?_) <;> (try replace hst := nH hst)))
      refine s_stW0 hst rfl BoxIn.h inX (x0 := extM F E) (cs := rgC (extM F E)) evX (r_rg hfk1) (Rep.len hrF) ?_
      clear hst; intro w hst
      (try refine nY ?_)
      (try replace hst := nH hst)
      repeat' (((fail_if_success (go_big_may)); (go_step)))
      refine ⟨trivial, ?_⟩
      simp only [List.cons_append, List.nil_append]
      rw [hsu.out]
      exact hst.drop
  · clear hst
    intro d w hst
    simp only [List.cons_append, List.nil_append] at hst
    rw [List.take_length] at hst
    have hfa := foldM_ok m log
    have hrA : Rep.R S2 (rgC (foldM m log)) (foldM m log) := r_rg hfa
    repeat' (first | (((with_reducible (refine Sl.k_load ?_; with_unfolding_all refine s_qt hst (qt_loadF (x0 := foldM m log) rfl BoxIn.h hrA inX) ?_))) <;> (try refine nY ?_)) | ((fail_if_success (go_big_may)); (go_step)))
    refine s_stW0 hst rfl BoxIn.h inX (x0 := foldM m log) (cs := rgC (foldM m log)) evX hrA rfl ?_
    clear hst; intro w hst
    (try refine nY ?_)
    (try replace hst := nH hst)
    repeat' (((fail_if_success (go_big_may)); (go_step)))
    refine ret_mark1 hst rfl (fun w' hst' => rv_F hst' rfl BoxIn.h inX hrA) fun w' hst' => ⟨_, rfl, rfl, St.weaken hS2 hst'.drop.drop.drop⟩
end Go.Proofs.YtgihhhdeoaplhaaDoor

/- Small logs: the reference's Few, walked. -/
--@opt
--@u32
--@hgp
--@flat
--@dg
--@ex0
namespace Go.Proofs.YtgihhhdeoaplhaaDoor
set_option linter.unusedSimpArgs false
set_option linter.unusedVariables false
open Go.RowKit Go.Sl

def fewE (e : Ev) : Prop := e.2.1.length ≤ 30 ∧ e.2.2.1.length ≤ 30 ∧ e.2.2.2.1.length ≤ 30
instance (e : Ev) : Decidable (fewE e) := inferInstanceAs (Decidable (_ ∧ _))
def fewM (log : List Ev) : Bool := decide (log.length ≤ 10) && log.all fun e => decide (fewE e)
theorem fewM_big {log : List Ev} (h : 10 < log.length) : fewM log = false := by rw [fewM, decide_eq_false (by omega)]; rfl
theorem fewM_no {log : List Ev} {i : Nat} (h : i < log.length) (hn : ¬ fewE log[i]) : fewM log = false := by
  rw [fewM, Bool.and_eq_false_iff]
  refine .inr (Bool.eq_false_iff.2 fun ha => hn ?_)
  exact of_decide_eq_true (List.all_eq_true.1 ha _ (List.getElem_mem h))
theorem fewM_yes {log : List Ev} (h : log.length ≤ 10) (ha : ∀ e ∈ log, fewE e) : fewM log = true := by
  rw [fewM, decide_eq_true h, Bool.true_and, List.all_eq_true]
  exact fun e he => decide_eq_true (ha e he)
theorem fewM_of {log : List Ev} (h : fewM log = true) : log.length ≤ 10 ∧ ∀ e ∈ log, fewE e := by
  rw [fewM, Bool.and_eq_true, decide_eq_true_eq, List.all_eq_true] at h
  exact ⟨h.1, fun e he => of_decide_eq_true (h.2 e he)⟩
theorem fewE.ok {e : Ev} (h : fewE e) : evOk e := by unfold fewE at h; unfold evOk; omega

end Go.Proofs.YtgihhhdeoaplhaaDoor

/- Package register: leaves of lists, plain. -/
namespace Go.Proofs.YtgihhhdeoaplhaaDoor
set_option linter.unusedSimpArgs false
set_option linter.unusedVariables false
open Go.RowKit Go.Sl

theorem leavesP_get (lf : Int → Int → Dg) {xs : List Int} {k : Nat} (h : k < xs.length) (h2 : k < (leavesP lf xs).length) : (leavesP lf xs)[k] = lf (k : Int) xs[k] := by
  simp only [leavesP, List.getElem_map, List.getElem_range]
  rw [List.getD_eq_getElem?_getD, List.getElem?_eq_getElem h]
  rfl
theorem leaves_succ (lf : Int → Int → Dg) {xs : List Int} {i : Nat} (h : i < xs.length) : ((List.range (i + 1)).map fun (j : Nat) => lf (j : Int) (xs.getD j 0)) = ((List.range i).map fun (j : Nat) => lf (j : Int) (xs.getD j 0)) ++ [lf (i : Int) xs[i]] := by
  rw [List.range_succ, List.map_append]
  simp only [List.map_cons, List.map_nil]
  rw [List.getD_eq_getElem?_getD, List.getElem?_eq_getElem h]
  rfl

end Go.Proofs.YtgihhhdeoaplhaaDoor

/- Package register: heads compared (without the law of that package). -/
namespace Go.Proofs.YtgihhhdeoaplhaaDoor
set_option linter.unusedSimpArgs false
set_option linter.unusedVariables false
open Go.RowKit Go.Sl
instance keyI : Key Tryd.prog 3 Int 1 := key_int (by kernel_rfl)
instance key_hd : Key Tryd.prog 44 Hd 3 := by
  refine key_struct (d := 2) Tryd.underlying44 (by kernel_rfl) (by kernel_rfl) ?_
  simp only [List.toList_toArray]
  haveI k6 : KeyFs Tryd.prog [] 66 Unit 0 := keyFs_nil
  exact keyFs_cons (d := 2) (d' := 2) rfl (by kernel_rfl) (kb := keyFs_cons (d := 2) (d' := 2) rfl (by kernel_rfl) (kb := keyFs_cons (d := 1) (d' := 2) rfl (by kernel_rfl) (kb := keyFs_cons (d := 2) (d' := 2) rfl (by kernel_rfl) (kb := keyFs_cons (d := 2) (d' := 1) rfl (by kernel_rfl) (kb := keyFs_cons (d := 1) (d' := 0) rfl (by kernel_rfl) (kb := k6))))))
instance eqt_hd : EqTy Tryd.prog 44 := ⟨by kernel_rfl, by kernel_rfl, by kernel_rfl⟩

instance decHd : DecidableEq Hd := @instDecidableEqProd _ _ inferInstance (@instDecidableEqProd _ _ inferInstance (@instDecidableEqProd _ _ inferInstance (@instDecidableEqProd Dg (Dg × Int × Unit) inferInstance inferInstance)))
end Go.Proofs.YtgihhhdeoaplhaaDoor

/- Packages sha and merkle: how what comes in is read; the package's tables. -/
namespace Go.Proofs.YtgihhhdeoaplhaaDoor
set_option linter.unusedSimpArgs false
set_option linter.unusedVariables false
open Go.RowKit Go.Sl Go.ChangeShapes Go.WideShapes Go.ChangeAt

instance opI : Opens Tryd.prog 3 Int := opens_int (by kernel_rfl)
instance opB : Opens Tryd.prog 5 UInt8 := opens_u8 (by kernel_rfl)
instance opBs : Opens Tryd.prog 78 (List UInt8) := opens_list (sl78) (ty5) (by decide)
instance opD : Opens Tryd.prog 23 Dg := opens_array (arr23) (by kernel_rfl) (by kernel_rfl)
instance opDs : Opens Tryd.prog 50 (List Dg) := opens_list (sl50) (ty23) (by decide)

theorem own : ownKnob Tryd.prog.godebug = none := by kernel_rfl

theorem sum_ge {α : Type} [Siz α] {xs : List α} (h : ∀ x ∈ xs, 1 ≤ Siz.siz x) : xs.length ≤ (xs.map Siz.siz).sum := by
  induction xs with
  | nil => simp
  | cons a l ih =>
    have := ih fun x hx => h x (.tail _ hx)
    have := h a (.head _)
    simp only [List.length_cons, List.map_cons, List.sum_cons]; omega

set_option maxRecDepth 20000 in
theorem open_l {α : Type} [Rep α] [Siz α] {T E : TypeId} [Opens Tryd.prog T (List α)] (hT : Tryd.prog.underlying T = some (.slice E)) {H : Type} {enc : TypeId × Value → H} {W : World} {base : Nat} {v : Value} {d : DataW H} {p : List MemPlace} (hv : Value.okWide Tryd.prog W .any base T v) (h : DataW.Trod enc Tryd.prog W 0 (fun _ => true) true T v d p) :
    ∃ xs : List α, RSl (snapOf W) v xs ∧ (xs.map Siz.siz).sum + 1 ≤ Rows.uptoBulk d := by
  obtain ⟨a, n, c, rfl⟩ := okWide_slice hT hv
  obtain ⟨y, ⟨v', e, hy⟩, hs⟩ := open_arg (α := List α) h
  obtain rfl : v' = .slice a n c := by simpa [Value.cells] using e.symm
  exact ⟨y, hy, hs⟩

set_option maxRecDepth 20000 in
theorem open_ds {H : Type} {enc : TypeId × Value → H} {W : World} {base : Nat} {v : Value} {d : DataW H} {p : List MemPlace} (hv : Value.okWide Tryd.prog W .any base 50 v) (h : DataW.Trod enc Tryd.prog W 0 (fun _ => true) true 50 v d p) (hk : Rows.uptoBulk d ≤ 1048576) :
    ∃ xs : List Dg, RSl (snapOf W) v xs ∧ xs.length ≤ 1048576 := by
  obtain ⟨xs, hx, hs⟩ := open_l (α := Dg) Tryd.underlying50 hv h
  have := sum_ge (xs := xs) fun x hx2 => by
    have h16 := hx.dgs x hx2
    have h1 : ∀ l : List UInt8, (l.map Siz.siz).sum = l.length := fun l => by
      induction l with
      | nil => rfl
      | cons a l ih => simp only [List.map_cons, List.sum_cons, List.length_cons, ih]; show 1 + _ = _; omega
    show 1 ≤ (x.l.map Siz.siz).sum
    rw [h1]; omega
  exact ⟨xs, hx, by omega⟩
set_option maxRecDepth 20000 in
theorem open_bs {H : Type} {enc : TypeId × Value → H} {W : World} {base : Nat} {v : Value} {d : DataW H} {p : List MemPlace} (hv : Value.okWide Tryd.prog W .any base 78 v) (h : DataW.Trod enc Tryd.prog W 0 (fun _ => true) true 78 v d p) (hk : Rows.uptoBulk d ≤ 1048576) :
    ∃ xs : List UInt8, RSl (snapOf W) v xs ∧ xs.length ≤ 1048576 := by
  obtain ⟨xs, hx, hs⟩ := open_l (α := UInt8) Tryd.underlying78 hv h
  have := sum_ge (xs := xs) fun x _ => Nat.le_refl _
  exact ⟨xs, hx, by omega⟩
set_option maxRecDepth 20000 in
theorem open_u8 {H : Type} {enc : TypeId × Value → H} {W : World} {base : Nat} {v : Value} {d : DataW H} {p : List MemPlace} (hv : Value.okWide Tryd.prog W .any base 5 v) (h : DataW.Trod enc Tryd.prog W 0 (fun _ => true) true 5 v d p) :
    ∃ n : Nat, v = .int .u8 (n : Int) ∧ n ≤ 255 := by
  obtain ⟨n, rfl, _, _, wf⟩ := open_int Tryd.underlying5 hv h
  have hn : 0 ≤ n ∧ n ≤ 255 := by simpa [Lit.wf, IntKind.min, IntKind.max, IntKind.signed, IntKind.bits, I64] using wf
  exact ⟨n.toNat, by rw [Int.toNat_of_nonneg hn.1], by omega⟩

theorem okWide_array {P : Program} {w : World} {r : Reach} {base : Nat} {t : TypeId} {v : Value} {n : Nat} {e : TypeId} (ht : P.underlying t = some (.array n e)) (h : Value.okWide P w r base t v) : ∃ cs, v = .agg cs := by
  simp only [Value.okWide, ht] at h
  obtain ⟨cs, h1, _⟩ := h
  exact ⟨cs, h1⟩
set_option maxRecDepth 20000 in
theorem open_dg {H : Type} {enc : TypeId × Value → H} {W : World} {base : Nat} {v : Value} {d : DataW H} {p : List MemPlace} (hv : Value.okWide Tryd.prog W .any base 23 v) (h : DataW.Trod enc Tryd.prog W 0 (fun _ => true) true 23 v d p) :
    ∃ y : Dg, v = dgV y ∧ y.l.length = 16 := by
  obtain ⟨cs, rfl⟩ := okWide_array Tryd.underlying23 hv
  obtain ⟨y, hy, _⟩ := open_arg (α := Dg) h
  obtain ⟨h1, e⟩ := dg_cells hy
  have e' : cs = (u8s y.l).toArray := by
    apply Array.ext'
    exact e
  subst e'
  exact ⟨y, rfl, h1⟩

theorem tabC : ∀ ws : List UInt32, (List.map (fun z => Value.int .u32 z) (ws.map fun x => (x.toNat : Int))) = cF u32C ws
  | [] => rfl
  | a :: l => by
    show _ :: _ = _ :: cF u32C l
    rw [← tabC l]
/-- A table of words, as it lies. -/
theorem pt_of_tab {W : World} {name : String} {g : Nat} {n : Nat} {ws : List UInt32} (hg : Tryd.prog.globalNamed name = some g) (hn : ws.length = n)
    (h : Lib.TabIs Tryd.prog W name .u32 (ws.map fun x => (x.toNat : Int))) : Pt (snapOf W) (.pointer (some ⟨g, 0, none⟩)) (⟨ws⟩ : Arr UInt32 n) := by
  unfold Lib.TabIs World.var? at h
  rw [hg] at h
  simp only [Option.bind_some] at h
  split at h
  · rename_i cs T fz hc
    obtain rfl := Option.some.inj h
    refine ⟨g, 0, _, T, fz, rfl, hc, ?_⟩
    have hz : Rep.z (Arr UInt32 n) = n := by show n * 1 = n; omega
    rw [hz, List.drop_zero, List.take_of_length_le (by simp only [List.length_map]; omega)]
    rw [tabC]
    refine ⟨hn, by rw [cF_u32_len]; show ws.length = ws.length * 1; omega, fun j x hx => ?_⟩
    have hj : j < ws.length := (List.getElem?_eq_some_iff.1 hx).1
    have hz2 : Rep.z UInt32 = 1 := rfl
    rw [hz2, Nat.mul_one, cF_u32_get ws j hj, List.getD_eq_getElem?_getD, hx]
    rfl
  · cases h

theorem start_tab : Rows.laid_bootchain_sha_start (H := Unit) = Lib.tabData .u32 (s8Start.l.map fun x => (x.toNat : Int)) := by rfl
theorem cons_tab : Rows.laid_bootchain_sha_constants (H := Unit) = Lib.tabData .u32 (kList.map fun x => (x.toNat : Int)) := by rfl

theorem glob_of {W : World} (h : laidMetH Tryd.prog [("bootchain/sha.constants", Rows.laid_bootchain_sha_constants), ("bootchain/sha.start", Rows.laid_bootchain_sha_start)] W) : Glob (snapOf W) := by
  rw [start_tab, cons_tab] at h
  have h1 : laidMet Tryd.prog [("bootchain/sha.constants", Lib.tabData .u32 (kList.map fun x => (x.toNat : Int))), ("bootchain/sha.start", Lib.tabData .u32 (s8Start.l.map fun x => (x.toNat : Int)))] W := h
  exact ⟨pt_of_tab (by kernel_rfl) rfl (Lib.tabIs_of_head (g := 0) (t := 111) (e := 109) (n := 8) (by kernel_rfl) (by kernel_rfl) (by kernel_rfl) (by kernel_rfl) (by kernel_rfl) (by kernel_rfl) (Go.laidMet.tail h1)),
    pt_of_tab (by kernel_rfl) rfl (Lib.tabIs_of_head (g := 1) (t := 120) (e := 109) (n := 64) (by kernel_rfl) (by kernel_rfl) (by kernel_rfl) (by kernel_rfl) (by kernel_rfl) (by kernel_rfl) h1)⟩

/-- A world for the witness: the settled one, the two tables laid. -/
def layCells (cs : List Value) : Obj → Obj
  | .cells _ t frozen => .cells cs.toArray t frozen
  | o => o
noncomputable def laidWorld (os : Os) (is : Array Value) : World :=
  { World.holding Tryd.prog os ⟨#[], is, []⟩ with heap := ((World.holding Tryd.prog os ⟨#[], is, []⟩).heap.modify 0 (layCells (cF u32C s8Start.l))).modify 1 (layCells (cF u32C kList)) }
end Go.Proofs.YtgihhhdeoaplhaaDoor

/- Package register: how what comes in is read. -/
namespace Go.Proofs.YtgihhhdeoaplhaaDoor
set_option linter.unusedSimpArgs false
set_option linter.unusedVariables false
open Go.RowKit Go.Sl Go.ChangeShapes Go.WideShapes Go.ChangeAt

instance opLI : Opens Tryd.prog 46 (List Int) := opens_list (sl46) (ty3) (by decide)
instance opEv : Opens Tryd.prog 48 Ev := opens_struct Tryd.underlying48 (by kernel_rfl)
  (openFs_cons rfl (by kernel_rfl) (ob := openFs_cons rfl (by kernel_rfl) (ob := openFs_cons rfl (by kernel_rfl) (ob := openFs_cons rfl (by kernel_rfl) (ob := openFs_cons rfl (by kernel_rfl) (ob := openFs_nil))))))
instance opEvs : Opens Tryd.prog 24 (List Ev) := opens_list (sl24) (ty48) (by decide)
instance opHd : Opens Tryd.prog 44 Hd := opens_struct Tryd.underlying44 (by kernel_rfl)
  (openFs_cons rfl (by kernel_rfl) (ob := openFs_cons rfl (by kernel_rfl) (ob := openFs_cons rfl (by kernel_rfl) (ob := openFs_cons rfl (by kernel_rfl) (ob := openFs_cons rfl (by kernel_rfl) (ob := openFs_cons rfl (by kernel_rfl) (ob := openFs_nil)))))))

theorem ev_siz (e : Ev) : 1 ≤ Siz.siz e := by
  show 1 ≤ _ + (_ + (_ + (_ + (1 + 0))))
  omega
set_option maxRecDepth 20000 in
theorem open_evs {H : Type} {enc : TypeId × Value → H} {W : World} {base : Nat} {v : Value} {d : DataW H} {p : List MemPlace} (hv : Value.okWide Tryd.prog W .any base 24 v) (h : DataW.Trod enc Tryd.prog W 0 (fun _ => true) true 24 v d p) (hk : Rows.uptoBulk d ≤ 1048576) :
    ∃ xs : List Ev, RSl (snapOf W) v xs ∧ xs.length ≤ 1048576 := by
  obtain ⟨xs, hx, hs⟩ := open_l (α := Ev) Tryd.underlying24 hv h
  have := sum_ge (xs := xs) fun x _ => ev_siz x
  exact ⟨xs, hx, by omega⟩
set_option maxRecDepth 20000 in
theorem open_ev {H : Type} {enc : TypeId × Value → H} {W : World} {base : Nat} {v : Value} {d : DataW H} {p : List MemPlace} (hv : Value.okWide Tryd.prog W .any base 48 v) (h : DataW.Trod enc Tryd.prog W 0 (fun _ => true) true 48 v d p) :
    ∃ (cs : List Value) (e : Ev), v = .agg cs.toArray ∧ Rep.R (snapOf W) cs e := by
  obtain ⟨cs, rfl, _⟩ := okWide_struct Tryd.underlying48 hv
  obtain ⟨y, hy, _⟩ := open_arg (α := Ev) h
  exact ⟨cs.toList, y, by simp, hy⟩
set_option maxRecDepth 20000 in
theorem open_hd {H : Type} {enc : TypeId × Value → H} {W : World} {base : Nat} {v : Value} {d : DataW H} {p : List MemPlace} (hv : Value.okWide Tryd.prog W .any base 44 v) (h : DataW.Trod enc Tryd.prog W 0 (fun _ => true) true 44 v d p) :
    ∃ h : Hd, v = hdV h ∧ HdOk h := by
  obtain ⟨cs, rfl, _⟩ := okWide_struct Tryd.underlying44 hv
  obtain ⟨y, hy, _⟩ := open_arg (α := Hd) h
  have hR : Rep.R (snapOf W) cs.toList y := hy
  have e := flatHd.flat hR
  refine ⟨y, ?_, ⟨hR.2.1.1, hR.2.2.2.1.1, hR.2.2.2.2.2.1.2, hR.2.2.2.2.2.2.2.1.1, hR.2.2.2.2.2.2.2.2.2.1.1, hR.2.2.2.2.2.2.2.2.2.2.2.1.2⟩⟩
  show Value.agg cs = Value.agg (hdC y).toArray
  rw [← e]
end Go.Proofs.YtgihhhdeoaplhaaDoor
