/- Package evidence walked; evidence in plain form; its law's sanity function; what comes in. -/
import Derived.Test.YtgihhhdeoaplhaaDoorBf
import Derived.Test.YtgihhhdeoaplhaaDoorBe
import Derived.Test.YtgihhhdeoaplhaaDoorBb
import Derived.Test.YtgihhhdeoaplhaaDoorBd

/- Package evidence: plain mathematics: evidence made and checked. -/
namespace Go.Proofs.YtgihhhdeoaplhaaDoor
set_option linter.unusedSimpArgs false
set_option linter.unusedVariables false
open Go.RowKit Go.Sl

abbrev Pn := Int × Int × Int × List Dg × Unit
abbrev Evd := Dg × List Hd × List Pn × Unit
abbrev lvM (e : Ev) : List Dg := leavesP leafP e.2.2.1
/-- The disclosed points of a log, or none if a pair is invalid. -/
def mkF (log : List Ev) : List (Int × Int) → List (Int × Int) → Option (List Pn)
  | _, [] => some []
  | bf, r :: rs => if r ∈ bf ∨ r.1 < 0 ∨ log.length ≤ r.1 then none else
    match log[r.1.toNat]? with
    | none => none
    | some e => if r.2 < 0 ∨ e.2.2.1.length ≤ r.2 then none else
      match mkF log (r :: bf) rs with
      | none => none
      | some ps => some ((r.1, r.2, e.2.2.1.getD r.2.toNat 0, proofM (lvM e) r.2.toNat, ()) :: ps)
/-- The first error among disclosed points. -/
def ckF (hs : List Hd) : List (Int × Int) → List Pn → Nat
  | _, [] => 0
  | bf, p :: ps => if (p.1, p.2.1) ∈ bf ∨ p.1 < 0 ∨ hs.length ≤ p.1 ∨ p.2.2.1 < 0 ∨ 3 < p.2.2.1 then 1 else
    match hs[p.1.toNat]? with
    | none => 1
    | some h => if p.2.1 < 0 ∨ h.2.2.1 ≤ p.2.1 then 1 else
      if verifyM h.2.2.2.1 h.2.2.1.toNat p.2.1.toNat (leafP p.2.1 p.2.2.1) p.2.2.2.1 then ckF hs ((p.1, p.2.1) :: bf) ps else 16
def regE (m : Dg) (hs : List Hd) : Rg := hs.foldl extM (startM m)
theorem regE_log (m : Dg) (log : List Ev) : regE m (log.map headM) = foldM m log := by
  unfold regE foldM
  rw [List.foldl_map]
theorem point_ok {e : Ev} {k : Int} (h0 : 0 ≤ k) (h1 : k < e.2.2.1.length) : verifyM (headM e).2.2.2.1 (headM e).2.2.1.toNat k.toNat (leafP k (e.2.2.1.getD k.toNat 0)) (proofM (lvM e) k.toNat) = true := by
  obtain ⟨n, rfl⟩ := Int.eq_ofNat_of_zero_le h0
  have hn : n < e.2.2.1.length := by omega
  have hl : (lvM e).length = e.2.2.1.length := leavesP_len _ _
  have := verify_complete (l := lvM e) (i := n) (by omega)
  rw [leavesP_get leafP hn (by rw [leavesP_len]; exact hn), hl] at this
  rw [Int.toNat_natCast, List.getD_eq_getElem?_getD, List.getElem?_eq_getElem hn]
  exact this
/-- What was made passes the check. -/
theorem mk_ck {log : List Ev} (hv : ∀ e ∈ log, ∀ t ∈ e.2.2.1, (0 : Int) ≤ t ∧ t ≤ 3) : ∀ (rs bf : List (Int × Int)) (ps : List Pn), mkF log bf rs = some ps → ckF (log.map headM) bf ps = 0
  | [], bf, ps, h => by
    simp only [mkF, Option.some.injEq] at h
    subst h
    rfl
  | r :: rs, bf, ps, h => by
    simp only [mkF] at h
    split at h
    · cases h
    · rename_i hc
      split at h
      · cases h
      · rename_i e he
        split at h
        · cases h
        · rename_i hk
          split at h
          · cases h
          · rename_i qs hq
            simp only [Option.some.injEq] at h
            subst h
            have hem : e ∈ log := List.mem_of_getElem? he
            have hkl : r.2.toNat < e.2.2.1.length := by omega
            have ht := hv e hem (e.2.2.1.getD r.2.toNat 0) (by
              rw [List.getD_eq_getElem?_getD, List.getElem?_eq_getElem hkl]
              exact List.getElem_mem hkl)
            simp only [ckF, List.length_map, List.getElem?_map, he, Option.map_some]
            obtain ⟨c1, c2⟩ := not_or.1 hc
            rw [if_neg (by rintro (h | h); exact c1 h; omega)]
            have hc2 : (headM e).2.2.1 = (e.2.2.1.length : Int) := rfl
            simp only [hc2]
            rw [if_neg (by omega)]
            have hp := point_ok (e := e) (k := r.2) (by omega) (by omega)
            rw [hc2] at hp
            rw [if_pos hp]
            exact mk_ck hv rs _ _ hq

/-! ### Collisions of the chain of registers -/
def codeH (h : Hd) : Dg × Int × Dg × Dg × Int × Unit := (h.1, h.2.2)
def regK (m : Dg) (hs : List Hd) (k : Nat) : Dg := (regE m (hs.take k)).1
def collC (m : Dg) (a : List Hd) (n : Dg) (b : List Hd) : Nat → Nat → Bool
  | 0, 0 => decide (regK m a 0 = regK n b 0) && decide (m ≠ n)
  | 0, k + 1 => decide (regK m a 0 = regK n b (k + 1))
  | i + 1, 0 => decide (regK m a (i + 1) = regK n b 0)
  | i + 1, k + 1 => decide (regK m a (i + 1) = regK n b (k + 1)) && (decide ((a[i]?).map codeH ≠ (b[k]?).map codeH) || decide (regK m a i ≠ regK n b k) || collC m a n b i k)
theorem collC_no {m n : Dg} {a b : List Hd} : ∀ (i k : Nat), i ≤ a.length → k ≤ b.length → regK m a i = regK n b k → collC m a n b i k = false → i = k ∧ m = n ∧ (a.take i).map codeH = (b.take k).map codeH
  | 0, 0, _, _, hr, h => by
    simp only [collC, hr, decide_true, Bool.true_and, decide_eq_false_iff_not, Decidable.not_not] at h
    exact ⟨rfl, h, by simp⟩
  | 0, k + 1, _, _, hr, h => by simp [collC, hr] at h
  | i + 1, 0, _, _, hr, h => by simp [collC, hr] at h
  | i + 1, k + 1, hi, hk, hr, h => by
    simp only [collC, hr, decide_true, Bool.true_and, Bool.or_eq_false_iff, decide_eq_false_iff_not, Decidable.not_not] at h
    obtain ⟨⟨h1, h2⟩, h3⟩ := h
    obtain ⟨e1, e2, e3⟩ := collC_no i k (by omega) (by omega) h2 h3
    refine ⟨by omega, e2, ?_⟩
    rw [List.take_add_one, List.take_add_one, List.map_append, List.map_append, e3, Option.toList_map.symm.trans ?_]
    rw [h1]
    exact Option.toList_map
end Go.Proofs.YtgihhhdeoaplhaaDoor

/- Package evidence: plain mathematics: sound evidence, events left out, outcomes changed. -/
namespace Go.Proofs.YtgihhhdeoaplhaaDoor
set_option linter.unusedSimpArgs false
set_option linter.unusedVariables false
open Go.RowKit Go.Sl

def collE (m : Dg) (a : List Hd) (n : Dg) (b : List Hd) : Bool := collC m a n b a.length b.length
theorem coll_no {m n : Dg} {a b : List Hd} (hr : (regE m a).1 = (regE n b).1) (h : collE m a n b = false) : a.length = b.length ∧ m = n ∧ a.map codeH = b.map codeH := by
  have := collC_no (m := m) (n := n) (a := a) (b := b) a.length b.length (Nat.le_refl _) (Nat.le_refl _) (by unfold regK; rw [List.take_length, List.take_length]; exact hr) h
  rw [List.take_length, List.take_length] at this
  exact this
theorem coll_len {m : Dg} {a b : List Hd} (hr : (regE m a).1 = (regE m b).1) (hl : a.length ≠ b.length) : collE m a m b = true := by
  cases h : collE m a m b with
  | true => rfl
  | false => exact absurd (coll_no hr h).1 hl
theorem coll_at {m : Dg} {a b : List Hd} {k : Nat} (hr : (regE m a).1 = (regE m b).1) (hk : (a[k]?).map codeH ≠ (b[k]?).map codeH) : collE m a m b = true := by
  cases h : collE m a m b with
  | true => rfl
  | false =>
    have := (coll_no hr h).2.2
    have e := congrArg (fun l : List _ => l[k]?) this
    simp only [List.getElem?_map] at e
    exact absurd e hk
/-- What a passed check says of each point. -/
theorem ck_pts {hs : List Hd} : ∀ (ps : List Pn) (bf : List (Int × Int)), ckF hs bf ps = 0 → ∀ p ∈ ps, 0 ≤ p.1 ∧ ∃ h, hs[p.1.toNat]? = some h ∧ 0 ≤ p.2.1 ∧ p.2.1 < h.2.2.1 ∧ verifyM h.2.2.2.1 h.2.2.1.toNat p.2.1.toNat (leafP p.2.1 p.2.2.1) p.2.2.2.1 = true
  | [], _, _, _, hp => by cases hp
  | q :: ps, bf, h, p, hp => by
    simp only [ckF] at h
    split at h
    · cases h
    · rename_i hc
      split at h
      · cases h
      · rename_i hd he
        split at h
        · cases h
        · rename_i hk
          split at h
          · rename_i hv
            rcases List.mem_cons.1 hp with rfl | hp
            · have hc' := fun x => hc (.inr x)
              exact ⟨by omega, hd, he, by omega, by omega, hv⟩
            · exact ck_pts ps _ h p hp
          · cases h
theorem sound_pt {e : Ev} {k : Nat} {leaf : Dg} {proof : List Dg} (hk : k < e.2.2.1.length) (hv : verifyM (headM e).2.2.2.1 e.2.2.1.length k leaf proof = true) : leaf = leafP (k : Int) (e.2.2.1.getD k 0) ∨ collM (lvM e) k leaf proof = true := by
  have hl : (lvM e).length = e.2.2.1.length := leavesP_len _ _
  have := sound_law (l := lvM e) (i := k) (leaf := leaf) (proof := proof) (by rw [hl]; exact hk) (by rw [hl]; exact hv)
  rw [leavesP_get leafP hk (by rw [leavesP_len]; exact hk), Bool.or_eq_true, decide_eq_true_eq] at this
  rw [List.getD_eq_getElem?_getD, List.getElem?_eq_getElem hk]
  exact this
theorem sound_ev {m n : Dg} {log : List Ev} {hs : List Hd} {ps : List Pn} (hc : ckF hs [] ps = 0) (hr : (regE n hs).1 = (foldM m log).1) (hn : collE m (log.map headM) n hs = false) :
    hs.length = log.length ∧ n = m ∧ ∀ p ∈ ps, 0 ≤ p.1 ∧ ∃ e, log[p.1.toNat]? = some e ∧ 0 ≤ p.2.1 ∧ p.2.1 < (e.2.2.1.length : Int) ∧ (leafP p.2.1 p.2.2.1 = leafP p.2.1 (e.2.2.1.getD p.2.1.toNat 0) ∨ collM (lvM e) p.2.1.toNat (leafP p.2.1 p.2.2.1) p.2.2.2.1 = true) := by
  obtain ⟨a1, a2, a3⟩ := coll_no (by rw [regE_log]; exact hr.symm) hn
  rw [List.length_map] at a1
  refine ⟨a1.symm, a2.symm, fun p hp => ?_⟩
  obtain ⟨h0, h, hh, i0, i1, hv⟩ := ck_pts ps [] hc p hp
  have hlt : p.1.toNat < log.length := by rw [a1]; exact (List.getElem?_eq_some_iff.1 hh).1
  have he := List.getElem?_eq_getElem hlt
  have hcode := congrArg (fun l : List _ => l[p.1.toNat]?) a3
  simp only [List.getElem?_map, he, hh, Option.map_some, Option.some.injEq] at hcode
  have hco0 : (codeH (headM log[p.1.toNat])).2 = (codeH h).2 := congrArg Prod.snd hcode
  have hco : (headM log[p.1.toNat]).2.2 = h.2.2 := hco0
  have hcn : h.2.2.1 = (log[p.1.toNat].2.2.1.length : Int) := by rw [← hco]; rfl
  have hpt : h.2.2.2.1 = (headM log[p.1.toNat]).2.2.2.1 := by rw [← hco]
  rw [hcn] at i1
  rw [hcn, hpt, Int.toNat_natCast] at hv
  refine ⟨h0, _, he, i0, i1, ?_⟩
  have := sound_pt (e := log[p.1.toNat]) (k := p.2.1.toNat) (by omega) hv
  rw [Int.toNat_of_nonneg i0] at this
  exact this
theorem omit_swap {m : Dg} {hs : List Hd} {k : Nat} {a b : Hd} (ha : hs[k]? = some a) (hb : hs[k + 1]? = some b) (hne : codeH b ≠ codeH a) (hr : (regE m hs).1 = (regE m ((hs.set k b).set (k + 1) a)).1) : collE m hs m ((hs.set k b).set (k + 1) a) = true := by
  have hk : k < hs.length := (List.getElem?_eq_some_iff.1 ha).1
  refine coll_at (k := k) hr ?_
  rw [ha, List.getElem?_set_ne (by omega), List.getElem?_set_self hk]
  intro e
  simp only [Option.map_some, Option.some.injEq] at e
  exact hne e.symm
theorem tamper {log : List Ev} {e : Ev} {j k : Nat} {t : Int} (he : log[j]? = some e) (hk : k < e.2.2.1.length) (h0 : 0 ≤ t) (h3 : t ≤ 3) :
    ckF (log.map headM) [] [((j : Int), (k : Int), t, proofM (lvM e) k, ())] = 16 ∨ leafP (k : Int) t = leafP (k : Int) (e.2.2.1.getD k 0) ∨ collM (lvM e) k (leafP (k : Int) t) (proofM (lvM e) k) = true := by
  have hj : j < log.length := (List.getElem?_eq_some_iff.1 he).1
  have hc2 : (headM e).2.2.1 = (e.2.2.1.length : Int) := rfl
  cases hv : verifyM (headM e).2.2.2.1 e.2.2.1.length k (leafP (k : Int) t) (proofM (lvM e) k) with
  | true => exact .inr (sound_pt hk hv)
  | false =>
    refine .inl ?_
    simp only [ckF, List.length_map, List.getElem?_map, Int.toNat_natCast, he, Option.map_some, hc2]
    rw [if_neg (by rintro (h | h); · cases h
                   · omega), if_neg (by omega), hv, if_neg (by simp)]
end Go.Proofs.YtgihhhdeoaplhaaDoor

/- Package evidence: the iterator that tells which keys are new, walked. -/
--@u32
--@hgp
--@flat
--@dg
--@ex0
namespace Go.Proofs.YtgihhhdeoaplhaaDoor
set_option linter.unusedSimpArgs false
set_option linter.unusedVariables false
open Go.RowKit Go.Sl

abbrev Ky := Int × Int × Unit
abbrev kyC (k : Ky) : List Value := [.int .i64 k.1, .int .i64 k.2.1]
abbrev kyV (k : Ky) : Value := .agg (kyC k).toArray
structure KyOk (k : Ky) : Prop where
  a : I64 k.1
  b : I64 k.2.1
theorem r_ky {S : Snap} {k : Ky} (h : KyOk k) : Rep.R S (kyC k) k := prod_mk (cs := [_]) ⟨rfl, h.a⟩ (prod_mk (cs := [_]) ⟨rfl, h.b⟩ unit_mk)
instance key_ky : Key Tryd.prog 63 Ky 2 := by
  refine key_struct (d := 1) Tryd.underlying63 (by kernel_rfl) (by kernel_rfl) ?_
  simp only [List.toList_toArray]
  haveI k2 : KeyFs Tryd.prog [] 2 Unit 0 := keyFs_nil
  exact keyFs_cons (d := 1) (d' := 1) rfl (by kernel_rfl) (kb := keyFs_cons (d := 1) (d' := 0) rfl (by kernel_rfl) (kb := k2))
instance eqt_ky : EqTy Tryd.prog 63 := ⟨by kernel_rfl, by kernel_rfl, by kernel_rfl⟩
instance mapKy : MapT Tryd.prog 92 63 4 := ⟨Tryd.underlying92⟩

/-- The keys that have come, as the map holds them. -/
def seenL (ks : List Ky) : List (Ky × Value) := ks.map fun k => (k, .bool true)
theorem seen_at (ks : List Ky) (k : Ky) : mapAt (seenL ks) k = if k ∈ ks then some (.bool true) else none := by
  induction ks with
  | nil => rfl
  | cons x ks ih =>
    unfold mapAt seenL at *
    rw [List.map_cons, List.find?_cons]
    by_cases h : k = x
    · simp [h]
    · have h2 : ¬ (k = x) := h
      simp only [h, decide_false, List.mem_cons, false_or]
      exact ih
theorem seen_get (ks : List Ky) (k : Ky) : (mapAt (seenL ks) k).getD (.bool false) = .bool (decide (k ∈ ks)) := by
  rw [seen_at]
  by_cases h : k ∈ ks <;> simp [h]
theorem seen_snoc (ks : List Ky) (k : Ky) : seenL (ks ++ [k]) = seenL ks ++ [(k, .bool true)] := by simp [seenL]

/-- A key that comes, and whether it is new. -/
def keyOk (ks : List Ky) (k : Nat) (vs : List Value) : Prop := ∃ x, ks[k]? = some x ∧ vs = [kyV x]
def keyFr (ks : List Ky) (k : Nat) (vs : List Value) : Prop := ∃ x, ks[k]? = some x ∧ vs = [kyV x, .bool (!decide (x ∈ ks.take k))]
def keyNew (ks : List Ky) (k : Nat) : Prop := ∃ x, ks[k]? = some x ∧ x ∉ ks.take k

set_option maxRecDepth 8000 in
set_option maxHeartbeats 400000 in
theorem distinct_c {S M} (w : World) (hst : St S M w) (kv : Value) (h1 : kv.oneCell' = true) :
    Rets Tryd.prog 28 [kv] w fun v w' => ∃ b, v = .func (.func 55) #[] #[.pointer (some ⟨b, 0, none⟩)] ∧ St S (.box b [kv] 90 :: M) w' := by
  unfold Rets
  go_enter Tryd.func28, Tryd.ntmps28
  repeat' (first | ((fail_if_success (go_big_may)); (go_step)) | (with_reducible refine Sl.gate rfl ?_; (go_step)) | (((((refine s_box hst evX rfl ?_; clear hst; intro bx w hst)))) <;> (try refine nY ?_) <;> (try replace hst := nH hst)))
  refine ret_one rfl (rv_tmp rfl) ?_; (try simp only [nth, List.drop_zero, List.drop_succ_cons, List.take_succ_cons, List.take_zero, vOf_true, vOf_false])
  change St S (.box _ kv.cells.toList _ :: M) w at hst
  rw [cells_one h1] at hst
  exact ⟨_, rfl, _, rfl, hst⟩

set_option maxRecDepth 8000 in
set_option maxHeartbeats 2000000 in
theorem distinct1_c {S : Snap} {gf : FuncId} {lb : List Value} (hb : Body Tryd.prog gf) {ks : List Ky} (hks : ∀ k ∈ ks, KyOk k) {A : Nat → List Chunk} (hit : IterX Tryd.prog S gf lb ks.length (keyOk ks) (fun _ => True) A) (b : Nat) :
    IterX Tryd.prog S 55 [.pointer (some ⟨b, 0, none⟩)] ks.length (keyFr ks) (keyNew ks) (fun k => .box b [.func (.func gf) #[] lb.toArray] 90 :: A k) := by
  intro l J X hY S1 M w hS1 hJ hst
  refine Rets.mono (post := fun v w' => ∃ S'' M', S1.Le S'' ∧ ((J ks.length S'' M' ∧ St S'' ((.box b [.func (.func gf) #[] lb.toArray] 90 :: A ks.length) ++ M') w') ∨ (X S'' M' ∧ ∃ k, k < ks.length ∧ St S'' ((.box b [.func (.func gf) #[] lb.toArray] 90 :: A k) ++ M') w')))
    (post' := fun v w' => ∃ S'' M', S1.Le S'' ∧ ((J ks.length S'' M' ∧ St S'' ((.box b [.func (.func gf) #[] lb.toArray] 90 :: A ks.length) ++ M') w') ∨ (X S'' M' ∧ ∃ k, k < ks.length ∧ St S'' ((.box b [.func (.func gf) #[] lb.toArray] 90 :: A k) ++ M') w'))) ?_ (fun v w' h => h) |> fun h => Calls.mono h fun e w' ⟨v, he, hp⟩ => ⟨⟨v, he⟩, hp⟩
  refine rets_marks Tryd.func55 rfl ?_
  simp only [Tryd.ntmps55, List.size_toArray, List.length_cons, List.length_nil, Nat.reduceAdd, Nat.reduceSub, Array.replicate_succ, Array.replicate_zero, List.push_toArray, List.append_toArray, List.nil_append, List.cons_append]
  simp only [List.cons_append] at hst
  repeat' ((fail_if_success (with_reducible show Code.wp _ (Code.region 1 _ _) _ _ _)); first | ((fail_if_success (go_big_may)); (go_step)) | (((((refine s_box hst evX rfl ?_; clear hst; intro bx w hst)))) <;> (try refine nY ?_) <;> (try replace hst := nH hst)))
  refine wp_region_lit ?_
  refine s_makeMap hst ?_
  clear hst; intro mb w hst
  (try refine nY ?_)
  repeat' (first | ((fail_if_success (go_big_may)); (go_step)) | (((with_reducible refine Sl.k_load ?_; (refine s_qt hst (by exact qt_load rfl _ BoxIn.h inX rfl rfl) ?_))) <;> (try refine nY ?_)) | ((((first | (with_reducible refine Sl.k_store ?_; (refine s_store hst rfl _ BoxIn.h inX evX rfl lenOk oneOk (by simp) ?_); clear hst; intro w hst) | (refine s_alloc hst inX ?_; clear hst; intro bk w hst)))) <;> (try refine nY ?_) <;> (try replace hst := nH hst)))
  rename Nat => bk
  have hst0 := hst.perm (permL [_, _, _, _] (A 0) M)
  refine s_rangeX1 (A := A)
    (fun k T N => ∃ es clock M1, N = .box bk [.map (some mb)] 92 :: .obj mb (.map es clock) :: .box bx [.func (.yield l) #[] #[]] 91 :: .box b [.func (.func gf) #[] lb.toArray] 90 :: M1 ∧ MapIs T es.toList (seenL (ks.take k)) ∧ J k T M1)
    (fun T N => ∃ es clock M1, N = .box bk [.map (some mb)] 92 :: .obj mb (.map es clock) :: .box bx [.func (.yield l) #[] #[]] 91 :: .box b [.func (.func gf) #[] lb.toArray] 90 :: M1 ∧ X T M1)
    hst0 ⟨#[], 0, M, rfl, trivial, hJ⟩ rfl hb (hit.mono hS1) inX ?_ (by simp) (by simp) (by decide) ?_ ?_ ?_
  · rintro k vs ⟨x, hx, rfl⟩
    exact ⟨kyC x, rfl, rfl, rfl⟩
  · clear hst hst0
    rintro r k b4 cs S2 M2 C w hk ⟨x, hx, hvs⟩ hS2 ⟨es, clock, M1, rfl, hmap, hJ1⟩ hst
    obtain rfl : cs = kyC x := by have := (List.cons.inj hvs).1; simpa using this
    have hxo := hks x (List.mem_of_getElem? hx)
    have hst := hst.perm (List.Perm.cons _ (permF (A k) [_, _, _, _] M1 C))
    simp only [List.cons_append, List.nil_append] at hst
    have hRx : Rep.R S2 (kyC x) x := r_ky hxo
    have hlk := seen_get (ks.take k) x
    simp only [List.set_cons_succ, List.set_cons_zero]
    generalize hqv : (!decide (x ∈ List.take k ks)) = fr at *
    repeat' ((fail_if_success (with_reducible show Code.wpIn _ _ _ (Code.region 4 _ _) _ _ _)); first | (with_reducible refine wpIn_seq ?_) | (with_reducible refine wpIn_block ?_))
    refine region_tailIn (.inr ⟨_, rfl⟩) 6 hst (by kernel_rfl) rfl (by kernel_rfl) ?_
    simp only [List.take_succ_cons, List.take_zero, List.drop_succ_cons, List.drop_zero]
    refine q_qt (qt_load rfl _ BoxIn.h inX rfl rfl) ?_
    (try refine nY ?_)
    refine q_qt (qt_load rfl _ BoxIn.h inX rfl rfl) ?_
    (try refine nY ?_)
    refine q_qt (qt_load rfl _ BoxIn.h inX rfl rfl) ?_
    (try refine nY ?_)
    refine q_qt (qt_load rfl _ BoxIn.h inX rfl rfl) ?_
    (try refine nY ?_)
    refine q_qt (qt_lookup evX evX inX inX (by kernel_rfl) inX inX inX hmap hRx false) ?_
    simp only [Bool.false_eq_true, if_false, vOf_false, hlk]
    (try refine nY ?_)
    refine q_qt (qt_not rfl) ?_
    (try refine nY ?_)
    refine q_nil ?_
    clear hst; intro w hst
    have hst' := hst.perm (permG [_, _, _, _] [_] (A k) M1 C)
    have hnb : ∀ y, ks[k]? = some y → y = x := fun y hy => by rw [hx] at hy; exact (Option.some.inj hy).symm
    refine in_yieldR evX rfl (yieldAt_or (hY k hk _ ⟨x, hx, rfl⟩ S2 M1 _ w (hS1.trans hS2) hJ1 hst')) ?_
    clear hst hst'
    rintro v w (⟨rfl, ⟨y, hy, hny⟩, S3, M3, hS3, hJ3, hst⟩ | ⟨rfl, S3, M3, hS3, hX3, hst⟩)
    · obtain rfl := hnb y hy
      have hst := hst.perm (permG [_, _, _, _] [_] (A k) M3 C).symm
      simp only [List.cons_append, List.nil_append] at hst
      have hRx := Rep.mono hS3 hRx
      have hmap := hmap.mono hS3
      have hno : mapAt (seenL (ks.take k)) y = none := by rw [seen_at, if_neg hny]
      (try refine nY ?_)
      refine in_plain (.inr ⟨_, rfl⟩) loX rfl ?_
      repeat' (first | (with_reducible refine wl_nil ?_) | (with_reducible refine xt_n ?_) | (with_reducible refine wpIn_skip ?_) | (with_reducible refine rg_in ?_) | (with_reducible (refine ci_false evX ?_)) | ((fail_if_success (go_big_may)); (go_step)) | (((with_reducible refine Sl.k_load ?_; (refine s_qt hst (by first | exact qt_loadA evX BoxIn.h inX rfX | exact qt_load rfl _ BoxIn.h inX rfl rfl) ?_))) <;> (try refine nY ?_)) | (with_reducible refine Sl.gate rfl ?_; (go_step)))
      refine s_mapPut hst evX evX evX inX inX (by kernel_rfl) inX inX hmap hRx hno ?_
      clear hst; intro es' w hmap' hst
      (try refine nY ?_)
      (try replace hst := nH hst)
      repeat' (first | (with_reducible refine wl_nil ?_) | (with_reducible refine xb_n ?_))
      refine .inl ⟨rfl, trivial, S3, _, hS3, ⟨es', clock + 1, M3, rfl, ?_, hJ3⟩, ?_⟩
      · rw [List.take_succ_eq_append_getElem hk, seen_snoc]
        have : ks[k] = y := Option.some.inj ((List.getElem?_eq_getElem hk).symm.trans hx)
        rw [this]
        exact hmap'
      · exact hst.drop.perm (permF (A k) [_, _, _, _] M3 C).symm
    · have hst := hst.perm (permG [_, _, _, _] [_] (A k) M3 C).symm
      simp only [List.cons_append, List.nil_append] at hst
      (try refine nY ?_)
      refine in_plain (.inr ⟨_, rfl⟩) loX rfl ?_
      repeat' (first | (with_reducible refine wl_nil ?_) | (with_reducible refine xt_n ?_) | (with_reducible refine xt_r ?_) | (with_reducible refine xb_r ?_) | (with_reducible refine wpIn_ret ?_) | (with_reducible (refine ci_true evX ?_)) | ((fail_if_success (go_big_may)); (go_step)) | (with_reducible refine Sl.gate rfl ?_; (go_step)))
      refine .inr ⟨rfl, S3, _, hS3, ⟨es, clock, M3, rfl, hX3⟩, ?_⟩
      exact hst.drop.perm (permF (A k) [_, _, _, _] M3 C).symm
  · clear hst hst0
    rintro d S2 M2 w hS2 ⟨es, clock, M1, rfl, hmap, hJ1⟩ hst
    have hst := hst.perm (List.Perm.cons _ (permL (A ks.length) [_, _, _, _] M1))
    simp only [List.cons_append, List.nil_append] at hst
    repeat' (((fail_if_success (go_big_may)); (go_step)))
    refine end_mark0 hst rfl fun w' hst' => ⟨_, rfl, S2, M1, hS2, .inl ⟨hJ1, ?_⟩⟩
    exact hst'.drop.drop.drop
  · clear hst hst0
    rintro d k S2 M2 w hk hS2 ⟨es, clock, M1, rfl, hX1⟩ hst
    have hst := hst.perm (List.Perm.cons _ (permL (A k) [_, _, _, _] M1))
    simp only [List.cons_append, List.nil_append] at hst
    repeat' (((fail_if_success (go_big_may)); (go_step)))
    refine ret_mark0 hst rfl fun w' hst' => ⟨_, rfl, S2, M1, hS2, .inr ⟨hX1, k, hk, ?_⟩⟩
    exact hst'.drop.drop.drop
end Go.Proofs.YtgihhhdeoaplhaaDoor

/- Package evidence: the iterators over the keys of pairs and of disclosed points, walked. -/
--@u32
--@hgp
--@flat
--@dg
--@ex0
namespace Go.Proofs.YtgihhhdeoaplhaaDoor
set_option linter.unusedSimpArgs false
set_option linter.unusedVariables false
open Go.RowKit Go.Sl

instance flatP2 : FlatC (Int × Int) (fun p => [.int .i64 p.1, .int .i64 p.2]) := ⟨fun {S cs x} h => (flatProd (α := Int) (β := Int)).flat h⟩
def kyP (p : Int × Int) : Ky := (p.1, p.2, ())
theorem kyP_get {ps : List (Int × Int)} {k : Nat} (h : k < ps.length) : (ps.map kyP)[k]? = some (kyP ps[k]) := by simp [h]
theorem pair_ok {S : Snap} {v : Value} {ps : List (Int × Int)} (h : RSl S v ps) : ∀ p ∈ ps, I64 p.1 ∧ I64 p.2 := fun p hp => by
  obtain ⟨cs, hR⟩ := rsl_rep h p hp
  exact ⟨hR.2.1.2, hR.2.2.2⟩

theorem pair_okP {S : Snap} {p : Value} {ps : List (Int × Int)} (h : Pt S p ps) : ∀ p ∈ ps, I64 p.1 ∧ I64 p.2 := by
  obtain ⟨b, o, c, T, fz, rfl, hb, v, hv, hl⟩ := h
  exact pair_ok hl
set_option maxRecDepth 8000 in
set_option maxHeartbeats 1000000 in
theorem make1_c {S : Snap} (ps : List (Int × Int)) (hm : ps.length ≤ 1048576) (p : Value) (hs : Pt S p ps) : IterX Tryd.prog S 27 [p] ps.length (keyOk (ps.map kyP)) (fun _ => True) (fun _ => []) := by
  intro l J X hY S1 M w hS1 hJ hst
  have hs := hs.mono hS1
  have hps := pair_okP hs
  simp only [List.nil_append] at hst hY ⊢
  go_enter Tryd.func27, Tryd.ntmps27
  repeat' (first | go_skip | ((first | (with_reducible refine Sl.k_guard ?_; (first | (refine Sl.guard_yes rfl ?_) | (refine Sl.guard_no rfl ?_) | (refine Sl.guard_cases rfl ?_ ?_ <;> intro hg <;> first | (exfalso; simp only [decide_eq_true_eq, decide_eq_false_iff_not, Bool.not_false, Bool.not_true, beq_iff_eq, beq_eq_false_iff_ne, ne_eq] at hg; omega) | (simp only [hg, Bool.not_true, Bool.not_false])) <;> (try simp only [decide_eq_true_eq, decide_eq_false_iff_not, Bool.not_false, Bool.not_true, beq_iff_eq, beq_eq_false_iff_ne, bne_iff_ne, bne_eq_false_iff_eq, ne_eq] at hg))) | (with_reducible refine Sl.k_bin ?_; refine s_qt hst (by first | exact qt_xor32 rfl rfl | exact qt_and32 rfl rfl | exact qt_or32 rfl rfl | exact qt_add32 rfl rfl | exact qt_shl32 rfl rfl omX | exact qt_shr32 rfl rfl omX) ?_) | (with_reducible refine Sl.k_conv ?_; refine s_qt hst (by first | exact qt_conv832 rfl inX inX | exact qt_conv3264 rfl inX inX) ?_) | (with_reducible refine Sl.k_conv ?_; refine s_stringI hst evX asX inX inX inX ?_) | (with_reducible refine Sl.k_un ?_; refine s_qt hst (by exact qt_not32 rfl) ?_) | (with_reducible refine Sl.k_build ?_; refine s_qt hst (by exact qt_buildW inX inX inX rfl rfl (by simp only [List.map_cons, List.map_nil, evF, nth]; rfl) (by simp [Value.cells])) ?_) | (with_reducible refine Sl.k_indexV ?_; refine s_qt hst (by exact qt_indexW evX rfl inX inX omX omX omX) ?_)) <;> (try simp only [Int.toNat_natCast, List.set_cons_succ, List.set_cons_zero, vOf_true, vOf_false, List.drop_succ_cons, List.drop_zero, List.take_succ_cons, List.take_zero, putD, Int.toNat_zero, Int.reduceToNat, Nat.mul_one, Nat.zero_add, Nat.add_zero, Nat.reduceMul, Nat.reduceAdd, Nat.zero_mul, Int.reduceSub, Int.reduceAdd, Int.reduceMul, Int.reduceNeg, Bool.not_true, Bool.not_false])) | ((fail_if_success (go_big_may)); (first | go_skip | go_guarded | go_step)) | ((first | (with_reducible refine Sl.k_load ?_; (first | refine s_qt hst (by first | exact qt_loadA evX BoxIn.h inX rfX | exact qt_ldp_flat evX asX inX inX rfl | exact qt_ldW evX BoxIn.h inX omX | exact qt_ldU evX asX SlIn.h inX omX | exact qt_ldp_u32 evX asX inX | exact qt_loadD evX BoxIn.h inX inX | exact qt_load rfl _ BoxIn.h inX rfl rfl) ?_ | (refine s_ex hst (qt_ldp_int evX asX inX) ?_; rintro v ⟨rfl, hI⟩) | refine s_qt hst (by first | exact qt_ldp_u8 evX asX inX | exact qt_ldp_bool evX asX inX) ?_ | (refine s_ex hst (qt_ldp_str evX asX inX) ?_; rintro v ⟨rfl, hs⟩) | (refine s_ex hst (qt_ldp_list evX asX inX) ?_; rintro v ⟨hvl, hv1⟩) | (refine s_ex hst (qt_ldp evX asX inX) ?_; rintro v ⟨cl, rfl, hcl⟩) | refine s_qt hst (by first | exact qt_ldB evX asX SlIn.h inX omX | exact qt_ldI evX asX SlIn.h inX omX | exact qt_ld2 evX asX SlIn.h inX omX | exact qt_load_own evX asX SlIn.h inX rfl (by simp <;> omega) | exact qt_load rfl _ asX inX rfl rfl) ?_)) | (with_reducible refine Sl.k_field ?_; (first | refine s_qt hst (qt_field rfl inX) ?_ | ((first | refine s_ex hst (qt_fieldp evX asX inX inX rfl) ?_ | refine s_ex hst (qt_field_own evX asX inX) ?_); rintro v hp; (try simp only [Int.toNat_natCast, Int.toNat_natCast_add_one, Int.reduceToNat] at hp)))) | (with_reducible refine Sl.k_index ?_; (first | refine s_qt hst (qt_indexA rfl rfl inX inX omX omX) ?_ | ((first | refine s_ex hst (qt_indexP0 evX asX rfl inX inX) ?_ | refine s_ex hst (qt_indexP1 evX asX rfl inX inX) ?_ | refine s_ex hst (qt_index evX asX rfl inX inX omX omX) ?_ | refine s_ex hst (qt_indexAp evX asX rfl inX inX rfl omX omX) ?_ | refine s_ex hst (qt_index_own hst evX SlIn.h rfl inX inX omX omX) ?_); rintro v hp; (try simp only [Int.toNat_natCast, Int.toNat_natCast_add_one, Int.reduceToNat] at hp)))) | (with_reducible refine Sl.k_call ?_; (first | refine s_qt hst (by first | exact qt_len evX asX inX | exact qt_len_str evX inX | exact qt_len_own evX SlIn.h inX | exact qt_max rfl rfl | exact qt_min rfl rfl) ?_))) <;> (try simp only [Int.toNat_natCast, List.set_cons_succ, List.set_cons_zero, vOf_true, vOf_false, List.drop_succ_cons, List.drop_zero, List.take_succ_cons, List.take_zero, putD, Int.toNat_zero, Int.reduceToNat, Nat.mul_one, Nat.zero_add, Nat.add_zero, Nat.reduceMul, Nat.reduceAdd, Nat.zero_mul, Int.reduceSub, Int.reduceAdd, Int.reduceMul, Int.reduceNeg, Bool.not_true, Bool.not_false])) | (with_reducible refine Sl.gate rfl ?_; (first | go_skip | go_guarded | go_step)) | ((first | ((first | (with_reducible refine Sl.k_store ?_; (first | refine s_stW hst rfl BoxIn.h inX evX omX ?_ | refine s_stU hst evX asX SlIn.h inX evX omX ?_ | refine s_stD hst rfl BoxIn.h inX evX inX lenX ?_ | refine s_stR hst rfl BoxIn.h evX asX inX rfl rfl ?_ | refine s_store hst rfl _ BoxIn.h inX evX rfl lenOk oneOk (by simp) ?_ | refine s_st1 hst rfl BoxIn.h evX asX inX (by simp) ?_ | refine s_stB hst evX asX SlIn.h inX evX omX ?_ | refine s_stI hst evX asX SlIn.h inX evX omX ?_ | refine s_st2 hst evX asX SlIn.h inX evX omX ?_); clear hst; intro w hst) | (refine s_box hst evX rfl ?_; clear hst; intro bx w hst) | (refine s_alloc hst inX ?_; clear hst; intro bk w hst)))) <;> (try simp only [Int.toNat_natCast, List.set_cons_succ, List.set_cons_zero, vOf_true, vOf_false, List.drop_succ_cons, List.drop_zero, List.take_succ_cons, List.take_zero, putD, Int.toNat_zero, Int.reduceToNat, Nat.mul_one, Nat.zero_add, Nat.add_zero, Nat.reduceMul, Nat.reduceAdd, Nat.zero_mul, Int.reduceSub, Int.reduceAdd, Int.reduceMul, Int.reduceNeg, Bool.not_true, Bool.not_false]) <;> (try simp only [List.set_cons_succ, List.set_cons_zero, List.drop_succ_cons, List.drop_zero, List.take_succ_cons, List.take_zero, List.nil_append, List.cons_append, List.append_nil, Value.cells, List.eraseIdx_cons_zero, List.eraseIdx_cons_succ, Nat.zero_add, Nat.add_zero, List.flatten_cons, List.flatten_nil, List.map_cons, List.map_nil] at hst)))
  go_loopw [7] (fun v wr => ∃ k S2 M2, k ≤ ps.length ∧ v = .int .i64 ((k : Nat) : Int) ∧ S1.Le S2 ∧ J k S2 M2 ∧ St S2 M2 wr) (fun v _ => ps.length - (intOf v).toNat)
  case atStart => exact ⟨0, S1, M, Nat.zero_le _, rfl, Snap.Le.refl _, hJ, hst⟩
  case round =>
    clear hst
    obtain ⟨k, S2, M2, hk, rfl, hS2, hJ2, hst⟩ := hrel
    have hvl := hvl.mono hS2
    by_cases hlt : k < ps.length
    · have hpk := hps ps[k] (List.getElem_mem hlt)
      repeat' ((fail_if_success (with_reducible show Code.wp _ (Code.region 3 _ _) _ _ _)); first | go_skip | ((first | (with_reducible refine Sl.k_guard ?_; (first | (refine Sl.guard_yes rfl ?_) | (refine Sl.guard_no rfl ?_) | (refine Sl.guard_cases rfl ?_ ?_ <;> intro hg <;> first | (exfalso; simp only [decide_eq_true_eq, decide_eq_false_iff_not, Bool.not_false, Bool.not_true, beq_iff_eq, beq_eq_false_iff_ne, ne_eq] at hg; omega) | (simp only [hg, Bool.not_true, Bool.not_false])) <;> (try simp only [decide_eq_true_eq, decide_eq_false_iff_not, Bool.not_false, Bool.not_true, beq_iff_eq, beq_eq_false_iff_ne, bne_iff_ne, bne_eq_false_iff_eq, ne_eq] at hg))) | (with_reducible refine Sl.k_bin ?_; refine s_qt hst (by first | exact qt_xor32 rfl rfl | exact qt_and32 rfl rfl | exact qt_or32 rfl rfl | exact qt_add32 rfl rfl | exact qt_shl32 rfl rfl omX | exact qt_shr32 rfl rfl omX) ?_) | (with_reducible refine Sl.k_conv ?_; refine s_qt hst (by first | exact qt_conv832 rfl inX inX | exact qt_conv3264 rfl inX inX) ?_) | (with_reducible refine Sl.k_conv ?_; refine s_stringI hst evX asX inX inX inX ?_) | (with_reducible refine Sl.k_un ?_; refine s_qt hst (by exact qt_not32 rfl) ?_) | (with_reducible refine Sl.k_build ?_; refine s_qt hst (by exact qt_buildW inX inX inX rfl rfl (by simp only [List.map_cons, List.map_nil, evF, nth]; rfl) (by simp [Value.cells])) ?_) | (with_reducible refine Sl.k_indexV ?_; refine s_qt hst (by exact qt_indexW evX rfl inX inX omX omX omX) ?_)) <;> (try simp only [Int.toNat_natCast, List.set_cons_succ, List.set_cons_zero, vOf_true, vOf_false, List.drop_succ_cons, List.drop_zero, List.take_succ_cons, List.take_zero, putD, Int.toNat_zero, Int.reduceToNat, Nat.mul_one, Nat.zero_add, Nat.add_zero, Nat.reduceMul, Nat.reduceAdd, Nat.zero_mul, Int.reduceSub, Int.reduceAdd, Int.reduceMul, Int.reduceNeg, Bool.not_true, Bool.not_false])) | ((fail_if_success (go_big_may)); (first | go_skip | go_guarded | go_step)) | ((first | (with_reducible refine Sl.k_load ?_; (first | refine s_qt hst (by first | exact qt_loadA evX BoxIn.h inX rfX | exact qt_ldp_flat evX asX inX inX rfl | exact qt_ldW evX BoxIn.h inX omX | exact qt_ldU evX asX SlIn.h inX omX | exact qt_ldp_u32 evX asX inX | exact qt_loadD evX BoxIn.h inX inX | exact qt_load rfl _ BoxIn.h inX rfl rfl) ?_ | (refine s_ex hst (qt_ldp_int evX asX inX) ?_; rintro v ⟨rfl, hI⟩) | refine s_qt hst (by first | exact qt_ldp_u8 evX asX inX | exact qt_ldp_bool evX asX inX) ?_ | (refine s_ex hst (qt_ldp_str evX asX inX) ?_; rintro v ⟨rfl, hs⟩) | (refine s_ex hst (qt_ldp_list evX asX inX) ?_; rintro v ⟨hvl, hv1⟩) | (refine s_ex hst (qt_ldp evX asX inX) ?_; rintro v ⟨cl, rfl, hcl⟩) | refine s_qt hst (by first | exact qt_ldB evX asX SlIn.h inX omX | exact qt_ldI evX asX SlIn.h inX omX | exact qt_ld2 evX asX SlIn.h inX omX | exact qt_load_own evX asX SlIn.h inX rfl (by simp <;> omega) | exact qt_load rfl _ asX inX rfl rfl) ?_)) | (with_reducible refine Sl.k_field ?_; (first | refine s_qt hst (qt_field rfl inX) ?_ | ((first | refine s_ex hst (qt_fieldp evX asX inX inX rfl) ?_ | refine s_ex hst (qt_field_own evX asX inX) ?_); rintro v hp; (try simp only [Int.toNat_natCast, Int.toNat_natCast_add_one, Int.reduceToNat] at hp)))) | (with_reducible refine Sl.k_index ?_; (first | refine s_qt hst (qt_indexA rfl rfl inX inX omX omX) ?_ | ((first | refine s_ex hst (qt_indexP0 evX asX rfl inX inX) ?_ | refine s_ex hst (qt_indexP1 evX asX rfl inX inX) ?_ | refine s_ex hst (qt_index evX asX rfl inX inX omX omX) ?_ | refine s_ex hst (qt_indexAp evX asX rfl inX inX rfl omX omX) ?_ | refine s_ex hst (qt_index_own hst evX SlIn.h rfl inX inX omX omX) ?_); rintro v hp; (try simp only [Int.toNat_natCast, Int.toNat_natCast_add_one, Int.reduceToNat] at hp)))) | (with_reducible refine Sl.k_call ?_; (first | refine s_qt hst (by first | exact qt_len evX asX inX | exact qt_len_str evX inX | exact qt_len_own evX SlIn.h inX | exact qt_max rfl rfl | exact qt_min rfl rfl) ?_))) <;> (try simp only [Int.toNat_natCast, List.set_cons_succ, List.set_cons_zero, vOf_true, vOf_false, List.drop_succ_cons, List.drop_zero, List.take_succ_cons, List.take_zero, putD, Int.toNat_zero, Int.reduceToNat, Nat.mul_one, Nat.zero_add, Nat.add_zero, Nat.reduceMul, Nat.reduceAdd, Nat.zero_mul, Int.reduceSub, Int.reduceAdd, Int.reduceMul, Int.reduceNeg, Bool.not_true, Bool.not_false])) | (with_reducible refine Sl.gate rfl ?_; (first | go_skip | go_guarded | go_step)) | ((first | ((first | (with_reducible refine Sl.k_store ?_; (first | refine s_stW hst rfl BoxIn.h inX evX omX ?_ | refine s_stU hst evX asX SlIn.h inX evX omX ?_ | refine s_stD hst rfl BoxIn.h inX evX inX lenX ?_ | refine s_stR hst rfl BoxIn.h evX asX inX rfl rfl ?_ | refine s_store hst rfl _ BoxIn.h inX evX rfl lenOk oneOk (by simp) ?_ | refine s_st1 hst rfl BoxIn.h evX asX inX (by simp) ?_ | refine s_stB hst evX asX SlIn.h inX evX omX ?_ | refine s_stI hst evX asX SlIn.h inX evX omX ?_ | refine s_st2 hst evX asX SlIn.h inX evX omX ?_); clear hst; intro w hst) | (refine s_box hst evX rfl ?_; clear hst; intro bx w hst) | (refine s_alloc hst inX ?_; clear hst; intro bk w hst)))) <;> (try simp only [Int.toNat_natCast, List.set_cons_succ, List.set_cons_zero, vOf_true, vOf_false, List.drop_succ_cons, List.drop_zero, List.take_succ_cons, List.take_zero, putD, Int.toNat_zero, Int.reduceToNat, Nat.mul_one, Nat.zero_add, Nat.add_zero, Nat.reduceMul, Nat.reduceAdd, Nat.zero_mul, Int.reduceSub, Int.reduceAdd, Int.reduceMul, Int.reduceNeg, Bool.not_true, Bool.not_false]) <;> (try simp only [List.set_cons_succ, List.set_cons_zero, List.drop_succ_cons, List.drop_zero, List.take_succ_cons, List.take_zero, List.nil_append, List.cons_append, List.append_nil, Value.cells, List.eraseIdx_cons_zero, List.eraseIdx_cons_succ, Nat.zero_add, Nat.add_zero, List.flatten_cons, List.flatten_nil, List.map_cons, List.map_nil] at hst)))
      refine (wpIn_wide (n := 0)).1 (wpIn_region_lit (in_take 6 (.inl rfl) ?_ rfl ?_))
      · with_unfolding_all (rintro ⟨a, w, ⟨v, hv⟩, _⟩; cases hv)
      · simp only [List.take_succ_cons, List.take_zero, List.drop_succ_cons, List.drop_zero]
        repeat' (first | go_skip | ((first | (with_reducible refine Sl.k_guard ?_; (first | (refine Sl.guard_yes rfl ?_) | (refine Sl.guard_no rfl ?_) | (refine Sl.guard_cases rfl ?_ ?_ <;> intro hg <;> first | (exfalso; simp only [decide_eq_true_eq, decide_eq_false_iff_not, Bool.not_false, Bool.not_true, beq_iff_eq, beq_eq_false_iff_ne, ne_eq] at hg; omega) | (simp only [hg, Bool.not_true, Bool.not_false])) <;> (try simp only [decide_eq_true_eq, decide_eq_false_iff_not, Bool.not_false, Bool.not_true, beq_iff_eq, beq_eq_false_iff_ne, bne_iff_ne, bne_eq_false_iff_eq, ne_eq] at hg))) | (with_reducible refine Sl.k_bin ?_; refine s_qt hst (by first | exact qt_xor32 rfl rfl | exact qt_and32 rfl rfl | exact qt_or32 rfl rfl | exact qt_add32 rfl rfl | exact qt_shl32 rfl rfl omX | exact qt_shr32 rfl rfl omX) ?_) | (with_reducible refine Sl.k_conv ?_; refine s_qt hst (by first | exact qt_conv832 rfl inX inX | exact qt_conv3264 rfl inX inX) ?_) | (with_reducible refine Sl.k_conv ?_; refine s_stringI hst evX asX inX inX inX ?_) | (with_reducible refine Sl.k_un ?_; refine s_qt hst (by exact qt_not32 rfl) ?_) | (with_reducible refine Sl.k_build ?_; refine s_qt hst (by exact qt_buildW inX inX inX rfl rfl (by simp only [List.map_cons, List.map_nil, evF, nth]; rfl) (by simp [Value.cells])) ?_) | (with_reducible refine Sl.k_indexV ?_; refine s_qt hst (by exact qt_indexW evX rfl inX inX omX omX omX) ?_)) <;> (try simp only [Int.toNat_natCast, List.set_cons_succ, List.set_cons_zero, vOf_true, vOf_false, List.drop_succ_cons, List.drop_zero, List.take_succ_cons, List.take_zero, putD, Int.toNat_zero, Int.reduceToNat, Nat.mul_one, Nat.zero_add, Nat.add_zero, Nat.reduceMul, Nat.reduceAdd, Nat.zero_mul, Int.reduceSub, Int.reduceAdd, Int.reduceMul, Int.reduceNeg, Bool.not_true, Bool.not_false])) | ((fail_if_success (go_big_may)); (first | go_skip | go_guarded | go_step)) | ((first | (with_reducible refine Sl.k_load ?_; (first | refine s_qt hst (by first | exact qt_loadA evX BoxIn.h inX rfX | exact qt_ldp_flat evX asX inX inX rfl | exact qt_ldW evX BoxIn.h inX omX | exact qt_ldU evX asX SlIn.h inX omX | exact qt_ldp_u32 evX asX inX | exact qt_loadD evX BoxIn.h inX inX | exact qt_load rfl _ BoxIn.h inX rfl rfl) ?_ | (refine s_ex hst (qt_ldp_int evX asX inX) ?_; rintro v ⟨rfl, hI⟩) | refine s_qt hst (by first | exact qt_ldp_u8 evX asX inX | exact qt_ldp_bool evX asX inX) ?_ | (refine s_ex hst (qt_ldp_str evX asX inX) ?_; rintro v ⟨rfl, hs⟩) | (refine s_ex hst (qt_ldp_list evX asX inX) ?_; rintro v ⟨hvl, hv1⟩) | (refine s_ex hst (qt_ldp evX asX inX) ?_; rintro v ⟨cl, rfl, hcl⟩) | refine s_qt hst (by first | exact qt_ldB evX asX SlIn.h inX omX | exact qt_ldI evX asX SlIn.h inX omX | exact qt_ld2 evX asX SlIn.h inX omX | exact qt_load_own evX asX SlIn.h inX rfl (by simp <;> omega) | exact qt_load rfl _ asX inX rfl rfl) ?_)) | (with_reducible refine Sl.k_field ?_; (first | refine s_qt hst (qt_field rfl inX) ?_ | ((first | refine s_ex hst (qt_fieldp evX asX inX inX rfl) ?_ | refine s_ex hst (qt_field_own evX asX inX) ?_); rintro v hp; (try simp only [Int.toNat_natCast, Int.toNat_natCast_add_one, Int.reduceToNat] at hp)))) | (with_reducible refine Sl.k_index ?_; (first | refine s_qt hst (qt_indexA rfl rfl inX inX omX omX) ?_ | ((first | refine s_ex hst (qt_indexP0 evX asX rfl inX inX) ?_ | refine s_ex hst (qt_indexP1 evX asX rfl inX inX) ?_ | refine s_ex hst (qt_index evX asX rfl inX inX omX omX) ?_ | refine s_ex hst (qt_indexAp evX asX rfl inX inX rfl omX omX) ?_ | refine s_ex hst (qt_index_own hst evX SlIn.h rfl inX inX omX omX) ?_); rintro v hp; (try simp only [Int.toNat_natCast, Int.toNat_natCast_add_one, Int.reduceToNat] at hp)))) | (with_reducible refine Sl.k_call ?_; (first | refine s_qt hst (by first | exact qt_len evX asX inX | exact qt_len_str evX inX | exact qt_len_own evX SlIn.h inX | exact qt_max rfl rfl | exact qt_min rfl rfl) ?_))) <;> (try simp only [Int.toNat_natCast, List.set_cons_succ, List.set_cons_zero, vOf_true, vOf_false, List.drop_succ_cons, List.drop_zero, List.take_succ_cons, List.take_zero, putD, Int.toNat_zero, Int.reduceToNat, Nat.mul_one, Nat.zero_add, Nat.add_zero, Nat.reduceMul, Nat.reduceAdd, Nat.zero_mul, Int.reduceSub, Int.reduceAdd, Int.reduceMul, Int.reduceNeg, Bool.not_true, Bool.not_false])) | (with_reducible refine Sl.gate rfl ?_; (first | go_skip | go_guarded | go_step)) | ((first | ((first | (with_reducible refine Sl.k_store ?_; (first | refine s_stW hst rfl BoxIn.h inX evX omX ?_ | refine s_stU hst evX asX SlIn.h inX evX omX ?_ | refine s_stD hst rfl BoxIn.h inX evX inX lenX ?_ | refine s_stR hst rfl BoxIn.h evX asX inX rfl rfl ?_ | refine s_store hst rfl _ BoxIn.h inX evX rfl lenOk oneOk (by simp) ?_ | refine s_st1 hst rfl BoxIn.h evX asX inX (by simp) ?_ | refine s_stB hst evX asX SlIn.h inX evX omX ?_ | refine s_stI hst evX asX SlIn.h inX evX omX ?_ | refine s_st2 hst evX asX SlIn.h inX evX omX ?_); clear hst; intro w hst) | (refine s_box hst evX rfl ?_; clear hst; intro bx w hst) | (refine s_alloc hst inX ?_; clear hst; intro bk w hst)))) <;> (try simp only [Int.toNat_natCast, List.set_cons_succ, List.set_cons_zero, vOf_true, vOf_false, List.drop_succ_cons, List.drop_zero, List.take_succ_cons, List.take_zero, putD, Int.toNat_zero, Int.reduceToNat, Nat.mul_one, Nat.zero_add, Nat.add_zero, Nat.reduceMul, Nat.reduceAdd, Nat.zero_mul, Int.reduceSub, Int.reduceAdd, Int.reduceMul, Int.reduceNeg, Bool.not_true, Bool.not_false]) <;> (try simp only [List.set_cons_succ, List.set_cons_zero, List.drop_succ_cons, List.drop_zero, List.take_succ_cons, List.take_zero, List.nil_append, List.cons_append, List.append_nil, Value.cells, List.eraseIdx_cons_zero, List.eraseIdx_cons_succ, Nat.zero_add, Nat.add_zero, List.flatten_cons, List.flatten_nil, List.map_cons, List.map_nil] at hst)))
        replace hst := hst.drop
        have hst' : St S2 (M2 ++ []) w := by rw [List.append_nil]; exact hst
        refine in_yieldF (.inl rfl) evX rfl (yieldAt_or (hY k hlt _ ⟨_, kyP_get hlt, rfl⟩ S2 M2 [] w (hS1.trans hS2) hJ2 hst')) ?_
        clear hst hst'
        rintro v w (⟨rfl, -, S3, M3, hS3, hJ3, hst⟩ | ⟨rfl, S3, M3, hS3, hX3, hst⟩)
        · rw [List.append_nil] at hst
          (try simp only [Int.toNat_natCast, List.set_cons_succ, List.set_cons_zero, vOf_true, vOf_false, List.drop_succ_cons, List.drop_zero, List.take_succ_cons, List.take_zero, putD, Int.toNat_zero, Int.reduceToNat, Nat.mul_one, Nat.zero_add, Nat.add_zero, Nat.reduceMul, Nat.reduceAdd, Nat.zero_mul, Int.reduceSub, Int.reduceAdd, Int.reduceMul, Int.reduceNeg, Bool.not_true, Bool.not_false])
          refine in_plain (.inl rfl) ?_ rfl ?_
          · with_unfolding_all (rintro ⟨a, w, ⟨v, hv⟩, _⟩; cases hv)
          · repeat' (first | go_skip | ((first | (with_reducible refine Sl.k_guard ?_; (first | (refine Sl.guard_yes rfl ?_) | (refine Sl.guard_no rfl ?_) | (refine Sl.guard_cases rfl ?_ ?_ <;> intro hg <;> first | (exfalso; simp only [decide_eq_true_eq, decide_eq_false_iff_not, Bool.not_false, Bool.not_true, beq_iff_eq, beq_eq_false_iff_ne, ne_eq] at hg; omega) | (simp only [hg, Bool.not_true, Bool.not_false])) <;> (try simp only [decide_eq_true_eq, decide_eq_false_iff_not, Bool.not_false, Bool.not_true, beq_iff_eq, beq_eq_false_iff_ne, bne_iff_ne, bne_eq_false_iff_eq, ne_eq] at hg))) | (with_reducible refine Sl.k_bin ?_; refine s_qt hst (by first | exact qt_xor32 rfl rfl | exact qt_and32 rfl rfl | exact qt_or32 rfl rfl | exact qt_add32 rfl rfl | exact qt_shl32 rfl rfl omX | exact qt_shr32 rfl rfl omX) ?_) | (with_reducible refine Sl.k_conv ?_; refine s_qt hst (by first | exact qt_conv832 rfl inX inX | exact qt_conv3264 rfl inX inX) ?_) | (with_reducible refine Sl.k_conv ?_; refine s_stringI hst evX asX inX inX inX ?_) | (with_reducible refine Sl.k_un ?_; refine s_qt hst (by exact qt_not32 rfl) ?_) | (with_reducible refine Sl.k_build ?_; refine s_qt hst (by exact qt_buildW inX inX inX rfl rfl (by simp only [List.map_cons, List.map_nil, evF, nth]; rfl) (by simp [Value.cells])) ?_) | (with_reducible refine Sl.k_indexV ?_; refine s_qt hst (by exact qt_indexW evX rfl inX inX omX omX omX) ?_)) <;> (try simp only [Int.toNat_natCast, List.set_cons_succ, List.set_cons_zero, vOf_true, vOf_false, List.drop_succ_cons, List.drop_zero, List.take_succ_cons, List.take_zero, putD, Int.toNat_zero, Int.reduceToNat, Nat.mul_one, Nat.zero_add, Nat.add_zero, Nat.reduceMul, Nat.reduceAdd, Nat.zero_mul, Int.reduceSub, Int.reduceAdd, Int.reduceMul, Int.reduceNeg, Bool.not_true, Bool.not_false])) | ((fail_if_success (go_big_may)); (first | go_skip | go_guarded | go_step)) | ((first | (with_reducible refine Sl.k_load ?_; (first | refine s_qt hst (by first | exact qt_loadA evX BoxIn.h inX rfX | exact qt_ldp_flat evX asX inX inX rfl | exact qt_ldW evX BoxIn.h inX omX | exact qt_ldU evX asX SlIn.h inX omX | exact qt_ldp_u32 evX asX inX | exact qt_loadD evX BoxIn.h inX inX | exact qt_load rfl _ BoxIn.h inX rfl rfl) ?_ | (refine s_ex hst (qt_ldp_int evX asX inX) ?_; rintro v ⟨rfl, hI⟩) | refine s_qt hst (by first | exact qt_ldp_u8 evX asX inX | exact qt_ldp_bool evX asX inX) ?_ | (refine s_ex hst (qt_ldp_str evX asX inX) ?_; rintro v ⟨rfl, hs⟩) | (refine s_ex hst (qt_ldp_list evX asX inX) ?_; rintro v ⟨hvl, hv1⟩) | (refine s_ex hst (qt_ldp evX asX inX) ?_; rintro v ⟨cl, rfl, hcl⟩) | refine s_qt hst (by first | exact qt_ldB evX asX SlIn.h inX omX | exact qt_ldI evX asX SlIn.h inX omX | exact qt_ld2 evX asX SlIn.h inX omX | exact qt_load_own evX asX SlIn.h inX rfl (by simp <;> omega) | exact qt_load rfl _ asX inX rfl rfl) ?_)) | (with_reducible refine Sl.k_field ?_; (first | refine s_qt hst (qt_field rfl inX) ?_ | ((first | refine s_ex hst (qt_fieldp evX asX inX inX rfl) ?_ | refine s_ex hst (qt_field_own evX asX inX) ?_); rintro v hp; (try simp only [Int.toNat_natCast, Int.toNat_natCast_add_one, Int.reduceToNat] at hp)))) | (with_reducible refine Sl.k_index ?_; (first | refine s_qt hst (qt_indexA rfl rfl inX inX omX omX) ?_ | ((first | refine s_ex hst (qt_indexP0 evX asX rfl inX inX) ?_ | refine s_ex hst (qt_indexP1 evX asX rfl inX inX) ?_ | refine s_ex hst (qt_index evX asX rfl inX inX omX omX) ?_ | refine s_ex hst (qt_indexAp evX asX rfl inX inX rfl omX omX) ?_ | refine s_ex hst (qt_index_own hst evX SlIn.h rfl inX inX omX omX) ?_); rintro v hp; (try simp only [Int.toNat_natCast, Int.toNat_natCast_add_one, Int.reduceToNat] at hp)))) | (with_reducible refine Sl.k_call ?_; (first | refine s_qt hst (by first | exact qt_len evX asX inX | exact qt_len_str evX inX | exact qt_len_own evX SlIn.h inX | exact qt_max rfl rfl | exact qt_min rfl rfl) ?_))) <;> (try simp only [Int.toNat_natCast, List.set_cons_succ, List.set_cons_zero, vOf_true, vOf_false, List.drop_succ_cons, List.drop_zero, List.take_succ_cons, List.take_zero, putD, Int.toNat_zero, Int.reduceToNat, Nat.mul_one, Nat.zero_add, Nat.add_zero, Nat.reduceMul, Nat.reduceAdd, Nat.zero_mul, Int.reduceSub, Int.reduceAdd, Int.reduceMul, Int.reduceNeg, Bool.not_true, Bool.not_false])) | (with_reducible refine Sl.gate rfl ?_; (first | go_skip | go_guarded | go_step)) | ((first | ((first | (with_reducible refine Sl.k_store ?_; (first | refine s_stW hst rfl BoxIn.h inX evX omX ?_ | refine s_stU hst evX asX SlIn.h inX evX omX ?_ | refine s_stD hst rfl BoxIn.h inX evX inX lenX ?_ | refine s_stR hst rfl BoxIn.h evX asX inX rfl rfl ?_ | refine s_store hst rfl _ BoxIn.h inX evX rfl lenOk oneOk (by simp) ?_ | refine s_st1 hst rfl BoxIn.h evX asX inX (by simp) ?_ | refine s_stB hst evX asX SlIn.h inX evX omX ?_ | refine s_stI hst evX asX SlIn.h inX evX omX ?_ | refine s_st2 hst evX asX SlIn.h inX evX omX ?_); clear hst; intro w hst) | (refine s_box hst evX rfl ?_; clear hst; intro bx w hst) | (refine s_alloc hst inX ?_; clear hst; intro bk w hst)))) <;> (try simp only [Int.toNat_natCast, List.set_cons_succ, List.set_cons_zero, vOf_true, vOf_false, List.drop_succ_cons, List.drop_zero, List.take_succ_cons, List.take_zero, putD, Int.toNat_zero, Int.reduceToNat, Nat.mul_one, Nat.zero_add, Nat.add_zero, Nat.reduceMul, Nat.reduceAdd, Nat.zero_mul, Int.reduceSub, Int.reduceAdd, Int.reduceMul, Int.reduceNeg, Bool.not_true, Bool.not_false]) <;> (try simp only [List.set_cons_succ, List.set_cons_zero, List.drop_succ_cons, List.drop_zero, List.take_succ_cons, List.take_zero, List.nil_append, List.cons_append, List.append_nil, Value.cells, List.eraseIdx_cons_zero, List.eraseIdx_cons_succ, Nat.zero_add, Nat.add_zero, List.flatten_cons, List.flatten_nil, List.map_cons, List.map_nil] at hst)))
            go_roundw
            case rel => exact ⟨k + 1, S3, M3, by omega, by go_num, hS2.trans hS3, hJ3, hst⟩
            case measure => simp [intOf]; omega
        · rw [List.append_nil] at hst
          (try simp only [Int.toNat_natCast, List.set_cons_succ, List.set_cons_zero, vOf_true, vOf_false, List.drop_succ_cons, List.drop_zero, List.take_succ_cons, List.take_zero, putD, Int.toNat_zero, Int.reduceToNat, Nat.mul_one, Nat.zero_add, Nat.add_zero, Nat.reduceMul, Nat.reduceAdd, Nat.zero_mul, Int.reduceSub, Int.reduceAdd, Int.reduceMul, Int.reduceNeg, Bool.not_true, Bool.not_false])
          refine in_plain (.inl rfl) ?_ rfl ?_
          · with_unfolding_all (rintro ⟨a, w, ⟨v, hv⟩, _⟩; cases hv)
          · repeat' (first | go_skip | ((first | (with_reducible refine Sl.k_guard ?_; (first | (refine Sl.guard_yes rfl ?_) | (refine Sl.guard_no rfl ?_) | (refine Sl.guard_cases rfl ?_ ?_ <;> intro hg <;> first | (exfalso; simp only [decide_eq_true_eq, decide_eq_false_iff_not, Bool.not_false, Bool.not_true, beq_iff_eq, beq_eq_false_iff_ne, ne_eq] at hg; omega) | (simp only [hg, Bool.not_true, Bool.not_false])) <;> (try simp only [decide_eq_true_eq, decide_eq_false_iff_not, Bool.not_false, Bool.not_true, beq_iff_eq, beq_eq_false_iff_ne, bne_iff_ne, bne_eq_false_iff_eq, ne_eq] at hg))) | (with_reducible refine Sl.k_bin ?_; refine s_qt hst (by first | exact qt_xor32 rfl rfl | exact qt_and32 rfl rfl | exact qt_or32 rfl rfl | exact qt_add32 rfl rfl | exact qt_shl32 rfl rfl omX | exact qt_shr32 rfl rfl omX) ?_) | (with_reducible refine Sl.k_conv ?_; refine s_qt hst (by first | exact qt_conv832 rfl inX inX | exact qt_conv3264 rfl inX inX) ?_) | (with_reducible refine Sl.k_conv ?_; refine s_stringI hst evX asX inX inX inX ?_) | (with_reducible refine Sl.k_un ?_; refine s_qt hst (by exact qt_not32 rfl) ?_) | (with_reducible refine Sl.k_build ?_; refine s_qt hst (by exact qt_buildW inX inX inX rfl rfl (by simp only [List.map_cons, List.map_nil, evF, nth]; rfl) (by simp [Value.cells])) ?_) | (with_reducible refine Sl.k_indexV ?_; refine s_qt hst (by exact qt_indexW evX rfl inX inX omX omX omX) ?_)) <;> (try simp only [Int.toNat_natCast, List.set_cons_succ, List.set_cons_zero, vOf_true, vOf_false, List.drop_succ_cons, List.drop_zero, List.take_succ_cons, List.take_zero, putD, Int.toNat_zero, Int.reduceToNat, Nat.mul_one, Nat.zero_add, Nat.add_zero, Nat.reduceMul, Nat.reduceAdd, Nat.zero_mul, Int.reduceSub, Int.reduceAdd, Int.reduceMul, Int.reduceNeg, Bool.not_true, Bool.not_false])) | ((fail_if_success (go_big_may)); (first | go_skip | go_guarded | go_step)) | ((first | (with_reducible refine Sl.k_load ?_; (first | refine s_qt hst (by first | exact qt_loadA evX BoxIn.h inX rfX | exact qt_ldp_flat evX asX inX inX rfl | exact qt_ldW evX BoxIn.h inX omX | exact qt_ldU evX asX SlIn.h inX omX | exact qt_ldp_u32 evX asX inX | exact qt_loadD evX BoxIn.h inX inX | exact qt_load rfl _ BoxIn.h inX rfl rfl) ?_ | (refine s_ex hst (qt_ldp_int evX asX inX) ?_; rintro v ⟨rfl, hI⟩) | refine s_qt hst (by first | exact qt_ldp_u8 evX asX inX | exact qt_ldp_bool evX asX inX) ?_ | (refine s_ex hst (qt_ldp_str evX asX inX) ?_; rintro v ⟨rfl, hs⟩) | (refine s_ex hst (qt_ldp_list evX asX inX) ?_; rintro v ⟨hvl, hv1⟩) | (refine s_ex hst (qt_ldp evX asX inX) ?_; rintro v ⟨cl, rfl, hcl⟩) | refine s_qt hst (by first | exact qt_ldB evX asX SlIn.h inX omX | exact qt_ldI evX asX SlIn.h inX omX | exact qt_ld2 evX asX SlIn.h inX omX | exact qt_load_own evX asX SlIn.h inX rfl (by simp <;> omega) | exact qt_load rfl _ asX inX rfl rfl) ?_)) | (with_reducible refine Sl.k_field ?_; (first | refine s_qt hst (qt_field rfl inX) ?_ | ((first | refine s_ex hst (qt_fieldp evX asX inX inX rfl) ?_ | refine s_ex hst (qt_field_own evX asX inX) ?_); rintro v hp; (try simp only [Int.toNat_natCast, Int.toNat_natCast_add_one, Int.reduceToNat] at hp)))) | (with_reducible refine Sl.k_index ?_; (first | refine s_qt hst (qt_indexA rfl rfl inX inX omX omX) ?_ | ((first | refine s_ex hst (qt_indexP0 evX asX rfl inX inX) ?_ | refine s_ex hst (qt_indexP1 evX asX rfl inX inX) ?_ | refine s_ex hst (qt_index evX asX rfl inX inX omX omX) ?_ | refine s_ex hst (qt_indexAp evX asX rfl inX inX rfl omX omX) ?_ | refine s_ex hst (qt_index_own hst evX SlIn.h rfl inX inX omX omX) ?_); rintro v hp; (try simp only [Int.toNat_natCast, Int.toNat_natCast_add_one, Int.reduceToNat] at hp)))) | (with_reducible refine Sl.k_call ?_; (first | refine s_qt hst (by first | exact qt_len evX asX inX | exact qt_len_str evX inX | exact qt_len_own evX SlIn.h inX | exact qt_max rfl rfl | exact qt_min rfl rfl) ?_))) <;> (try simp only [Int.toNat_natCast, List.set_cons_succ, List.set_cons_zero, vOf_true, vOf_false, List.drop_succ_cons, List.drop_zero, List.take_succ_cons, List.take_zero, putD, Int.toNat_zero, Int.reduceToNat, Nat.mul_one, Nat.zero_add, Nat.add_zero, Nat.reduceMul, Nat.reduceAdd, Nat.zero_mul, Int.reduceSub, Int.reduceAdd, Int.reduceMul, Int.reduceNeg, Bool.not_true, Bool.not_false])) | (with_reducible refine Sl.gate rfl ?_; (first | go_skip | go_guarded | go_step)) | ((first | ((first | (with_reducible refine Sl.k_store ?_; (first | refine s_stW hst rfl BoxIn.h inX evX omX ?_ | refine s_stU hst evX asX SlIn.h inX evX omX ?_ | refine s_stD hst rfl BoxIn.h inX evX inX lenX ?_ | refine s_stR hst rfl BoxIn.h evX asX inX rfl rfl ?_ | refine s_store hst rfl _ BoxIn.h inX evX rfl lenOk oneOk (by simp) ?_ | refine s_st1 hst rfl BoxIn.h evX asX inX (by simp) ?_ | refine s_stB hst evX asX SlIn.h inX evX omX ?_ | refine s_stI hst evX asX SlIn.h inX evX omX ?_ | refine s_st2 hst evX asX SlIn.h inX evX omX ?_); clear hst; intro w hst) | (refine s_box hst evX rfl ?_; clear hst; intro bx w hst) | (refine s_alloc hst inX ?_; clear hst; intro bk w hst)))) <;> (try simp only [Int.toNat_natCast, List.set_cons_succ, List.set_cons_zero, vOf_true, vOf_false, List.drop_succ_cons, List.drop_zero, List.take_succ_cons, List.take_zero, putD, Int.toNat_zero, Int.reduceToNat, Nat.mul_one, Nat.zero_add, Nat.add_zero, Nat.reduceMul, Nat.reduceAdd, Nat.zero_mul, Int.reduceSub, Int.reduceAdd, Int.reduceMul, Int.reduceNeg, Bool.not_true, Bool.not_false]) <;> (try simp only [List.set_cons_succ, List.set_cons_zero, List.drop_succ_cons, List.drop_zero, List.take_succ_cons, List.take_zero, List.nil_append, List.cons_append, List.append_nil, Value.cells, List.eraseIdx_cons_zero, List.eraseIdx_cons_succ, Nat.zero_add, Nat.add_zero, List.flatten_cons, List.flatten_nil, List.map_cons, List.map_nil] at hst)))
            refine bodyPost_ret (results_none rfl _ _ _) rfl ?_
            exact ⟨⟨_, rfl⟩, S3, M3, hS2.trans hS3, .inr ⟨hX3, k, hlt, hst⟩⟩
    · obtain rfl : k = ps.length := by omega
      repeat' (first | go_skip | ((first | (with_reducible refine Sl.k_guard ?_; (first | (refine Sl.guard_yes rfl ?_) | (refine Sl.guard_no rfl ?_) | (refine Sl.guard_cases rfl ?_ ?_ <;> intro hg <;> first | (exfalso; simp only [decide_eq_true_eq, decide_eq_false_iff_not, Bool.not_false, Bool.not_true, beq_iff_eq, beq_eq_false_iff_ne, ne_eq] at hg; omega) | (simp only [hg, Bool.not_true, Bool.not_false])) <;> (try simp only [decide_eq_true_eq, decide_eq_false_iff_not, Bool.not_false, Bool.not_true, beq_iff_eq, beq_eq_false_iff_ne, bne_iff_ne, bne_eq_false_iff_eq, ne_eq] at hg))) | (with_reducible refine Sl.k_bin ?_; refine s_qt hst (by first | exact qt_xor32 rfl rfl | exact qt_and32 rfl rfl | exact qt_or32 rfl rfl | exact qt_add32 rfl rfl | exact qt_shl32 rfl rfl omX | exact qt_shr32 rfl rfl omX) ?_) | (with_reducible refine Sl.k_conv ?_; refine s_qt hst (by first | exact qt_conv832 rfl inX inX | exact qt_conv3264 rfl inX inX) ?_) | (with_reducible refine Sl.k_conv ?_; refine s_stringI hst evX asX inX inX inX ?_) | (with_reducible refine Sl.k_un ?_; refine s_qt hst (by exact qt_not32 rfl) ?_) | (with_reducible refine Sl.k_build ?_; refine s_qt hst (by exact qt_buildW inX inX inX rfl rfl (by simp only [List.map_cons, List.map_nil, evF, nth]; rfl) (by simp [Value.cells])) ?_) | (with_reducible refine Sl.k_indexV ?_; refine s_qt hst (by exact qt_indexW evX rfl inX inX omX omX omX) ?_)) <;> (try simp only [Int.toNat_natCast, List.set_cons_succ, List.set_cons_zero, vOf_true, vOf_false, List.drop_succ_cons, List.drop_zero, List.take_succ_cons, List.take_zero, putD, Int.toNat_zero, Int.reduceToNat, Nat.mul_one, Nat.zero_add, Nat.add_zero, Nat.reduceMul, Nat.reduceAdd, Nat.zero_mul, Int.reduceSub, Int.reduceAdd, Int.reduceMul, Int.reduceNeg, Bool.not_true, Bool.not_false])) | ((fail_if_success (go_big_may)); (first | go_skip | go_guarded | go_step)) | ((first | (with_reducible refine Sl.k_load ?_; (first | refine s_qt hst (by first | exact qt_loadA evX BoxIn.h inX rfX | exact qt_ldp_flat evX asX inX inX rfl | exact qt_ldW evX BoxIn.h inX omX | exact qt_ldU evX asX SlIn.h inX omX | exact qt_ldp_u32 evX asX inX | exact qt_loadD evX BoxIn.h inX inX | exact qt_load rfl _ BoxIn.h inX rfl rfl) ?_ | (refine s_ex hst (qt_ldp_int evX asX inX) ?_; rintro v ⟨rfl, hI⟩) | refine s_qt hst (by first | exact qt_ldp_u8 evX asX inX | exact qt_ldp_bool evX asX inX) ?_ | (refine s_ex hst (qt_ldp_str evX asX inX) ?_; rintro v ⟨rfl, hs⟩) | (refine s_ex hst (qt_ldp_list evX asX inX) ?_; rintro v ⟨hvl, hv1⟩) | (refine s_ex hst (qt_ldp evX asX inX) ?_; rintro v ⟨cl, rfl, hcl⟩) | refine s_qt hst (by first | exact qt_ldB evX asX SlIn.h inX omX | exact qt_ldI evX asX SlIn.h inX omX | exact qt_ld2 evX asX SlIn.h inX omX | exact qt_load_own evX asX SlIn.h inX rfl (by simp <;> omega) | exact qt_load rfl _ asX inX rfl rfl) ?_)) | (with_reducible refine Sl.k_field ?_; (first | refine s_qt hst (qt_field rfl inX) ?_ | ((first | refine s_ex hst (qt_fieldp evX asX inX inX rfl) ?_ | refine s_ex hst (qt_field_own evX asX inX) ?_); rintro v hp; (try simp only [Int.toNat_natCast, Int.toNat_natCast_add_one, Int.reduceToNat] at hp)))) | (with_reducible refine Sl.k_index ?_; (first | refine s_qt hst (qt_indexA rfl rfl inX inX omX omX) ?_ | ((first | refine s_ex hst (qt_indexP0 evX asX rfl inX inX) ?_ | refine s_ex hst (qt_indexP1 evX asX rfl inX inX) ?_ | refine s_ex hst (qt_index evX asX rfl inX inX omX omX) ?_ | refine s_ex hst (qt_indexAp evX asX rfl inX inX rfl omX omX) ?_ | refine s_ex hst (qt_index_own hst evX SlIn.h rfl inX inX omX omX) ?_); rintro v hp; (try simp only [Int.toNat_natCast, Int.toNat_natCast_add_one, Int.reduceToNat] at hp)))) | (with_reducible refine Sl.k_call ?_; (first | refine s_qt hst (by first | exact qt_len evX asX inX | exact qt_len_str evX inX | exact qt_len_own evX SlIn.h inX | exact qt_max rfl rfl | exact qt_min rfl rfl) ?_))) <;> (try simp only [Int.toNat_natCast, List.set_cons_succ, List.set_cons_zero, vOf_true, vOf_false, List.drop_succ_cons, List.drop_zero, List.take_succ_cons, List.take_zero, putD, Int.toNat_zero, Int.reduceToNat, Nat.mul_one, Nat.zero_add, Nat.add_zero, Nat.reduceMul, Nat.reduceAdd, Nat.zero_mul, Int.reduceSub, Int.reduceAdd, Int.reduceMul, Int.reduceNeg, Bool.not_true, Bool.not_false])) | (with_reducible refine Sl.gate rfl ?_; (first | go_skip | go_guarded | go_step)) | ((first | ((first | (with_reducible refine Sl.k_store ?_; (first | refine s_stW hst rfl BoxIn.h inX evX omX ?_ | refine s_stU hst evX asX SlIn.h inX evX omX ?_ | refine s_stD hst rfl BoxIn.h inX evX inX lenX ?_ | refine s_stR hst rfl BoxIn.h evX asX inX rfl rfl ?_ | refine s_store hst rfl _ BoxIn.h inX evX rfl lenOk oneOk (by simp) ?_ | refine s_st1 hst rfl BoxIn.h evX asX inX (by simp) ?_ | refine s_stB hst evX asX SlIn.h inX evX omX ?_ | refine s_stI hst evX asX SlIn.h inX evX omX ?_ | refine s_st2 hst evX asX SlIn.h inX evX omX ?_); clear hst; intro w hst) | (refine s_box hst evX rfl ?_; clear hst; intro bx w hst) | (refine s_alloc hst inX ?_; clear hst; intro bk w hst)))) <;> (try simp only [Int.toNat_natCast, List.set_cons_succ, List.set_cons_zero, vOf_true, vOf_false, List.drop_succ_cons, List.drop_zero, List.take_succ_cons, List.take_zero, putD, Int.toNat_zero, Int.reduceToNat, Nat.mul_one, Nat.zero_add, Nat.add_zero, Nat.reduceMul, Nat.reduceAdd, Nat.zero_mul, Int.reduceSub, Int.reduceAdd, Int.reduceMul, Int.reduceNeg, Bool.not_true, Bool.not_false]) <;> (try simp only [List.set_cons_succ, List.set_cons_zero, List.drop_succ_cons, List.drop_zero, List.take_succ_cons, List.take_zero, List.nil_append, List.cons_append, List.append_nil, Value.cells, List.eraseIdx_cons_zero, List.eraseIdx_cons_succ, Nat.zero_add, Nat.add_zero, List.flatten_cons, List.flatten_nil, List.map_cons, List.map_nil] at hst)))
      go_end0
      exact ⟨⟨_, rfl⟩, S2, M2, hS2, .inl ⟨hJ2, hst⟩⟩

def kyN (p : Pn) : Ky := (p.1, p.2.1, ())
theorem kyN_get {ps : List Pn} {k : Nat} (h : k < ps.length) : (ps.map kyN)[k]? = some (kyN ps[k]) := by simp [h]

/-- The number in a box. -/
def cellN (w : World) (b : Nat) : Nat := match w.cell? ⟨b, 0, none⟩ with | some v => (intOf v).toNat | none => 0
theorem cellN_eq {S : Snap} {M : List Chunk} {w : World} {b k : Nat} {T : TypeId} (h : St S (.box b [.int .i64 (k : Int)] T :: M) w) : cellN w b = k := by
  have hb : w.heap[b]? = some (.cells #[.int .i64 (k : Int)] T (0, 0)) := h.at_ _ (.head _)
  have : w.cell? ⟨b, 0, none⟩ = some (.int .i64 (k : Int)) := by simp [World.cell?, hb]
  simp [cellN, this, intOf]
set_option maxRecDepth 8000 in
set_option maxHeartbeats 1000000 in
theorem check1_c {S : Snap} (ev : Evd) (hm : ev.2.2.1.length ≤ 1048576) (p : Value) (hs : Pt S p ev) (bi : Nat) :
    IterX Tryd.prog S 34 [.pointer (some ⟨bi, 0, none⟩), p] ev.2.2.1.length (keyOk (ev.2.2.1.map kyN)) (fun _ => True) (fun k => [.box bi [.int .i64 (k : Nat)] 3]) := by
  intro l J X hY S1 M w hS1 hJ hst
  have hs := hs.mono hS1
  simp only [List.cons_append, List.nil_append] at hst hY ⊢
  go_enter Tryd.func34, Tryd.ntmps34
  repeat' (first | go_skip | ((first | (with_reducible refine Sl.k_guard ?_; (first | (refine Sl.guard_yes rfl ?_) | (refine Sl.guard_no rfl ?_) | (refine Sl.guard_cases rfl ?_ ?_ <;> intro hg <;> first | (exfalso; simp only [decide_eq_true_eq, decide_eq_false_iff_not, Bool.not_false, Bool.not_true, beq_iff_eq, beq_eq_false_iff_ne, ne_eq] at hg; omega) | (simp only [hg, Bool.not_true, Bool.not_false])) <;> (try simp only [decide_eq_true_eq, decide_eq_false_iff_not, Bool.not_false, Bool.not_true, beq_iff_eq, beq_eq_false_iff_ne, bne_iff_ne, bne_eq_false_iff_eq, ne_eq] at hg))) | (with_reducible refine Sl.k_bin ?_; refine s_qt hst (by first | exact qt_xor32 rfl rfl | exact qt_and32 rfl rfl | exact qt_or32 rfl rfl | exact qt_add32 rfl rfl | exact qt_shl32 rfl rfl omX | exact qt_shr32 rfl rfl omX) ?_) | (with_reducible refine Sl.k_conv ?_; refine s_qt hst (by first | exact qt_conv832 rfl inX inX | exact qt_conv3264 rfl inX inX) ?_) | (with_reducible refine Sl.k_conv ?_; refine s_stringI hst evX asX inX inX inX ?_) | (with_reducible refine Sl.k_un ?_; refine s_qt hst (by exact qt_not32 rfl) ?_) | (with_reducible refine Sl.k_build ?_; refine s_qt hst (by exact qt_buildW inX inX inX rfl rfl (by simp only [List.map_cons, List.map_nil, evF, nth]; rfl) (by simp [Value.cells])) ?_) | (with_reducible refine Sl.k_indexV ?_; refine s_qt hst (by exact qt_indexW evX rfl inX inX omX omX omX) ?_)) <;> (try simp only [Int.toNat_natCast, List.set_cons_succ, List.set_cons_zero, vOf_true, vOf_false, List.drop_succ_cons, List.drop_zero, List.take_succ_cons, List.take_zero, putD, Int.toNat_zero, Int.reduceToNat, Nat.mul_one, Nat.zero_add, Nat.add_zero, Nat.reduceMul, Nat.reduceAdd, Nat.zero_mul, Int.reduceSub, Int.reduceAdd, Int.reduceMul, Int.reduceNeg, Bool.not_true, Bool.not_false])) | ((fail_if_success (go_big_may)); (first | go_skip | go_guarded | go_step)) | ((first | (with_reducible refine Sl.k_load ?_; (first | refine s_qt hst (by first | exact qt_loadA evX BoxIn.h inX rfX | exact qt_ldp_flat evX asX inX inX rfl | exact qt_ldW evX BoxIn.h inX omX | exact qt_ldU evX asX SlIn.h inX omX | exact qt_ldp_u32 evX asX inX | exact qt_loadD evX BoxIn.h inX inX | exact qt_load rfl _ BoxIn.h inX rfl rfl) ?_ | (refine s_ex hst (qt_ldp_int evX asX inX) ?_; rintro v ⟨rfl, hI⟩) | refine s_qt hst (by first | exact qt_ldp_u8 evX asX inX | exact qt_ldp_bool evX asX inX) ?_ | (refine s_ex hst (qt_ldp_str evX asX inX) ?_; rintro v ⟨rfl, hs⟩) | (refine s_ex hst (qt_ldp_list evX asX inX) ?_; rintro v ⟨hvl, hv1⟩) | (refine s_ex hst (qt_ldp evX asX inX) ?_; rintro v ⟨cl, rfl, hcl⟩) | refine s_qt hst (by first | exact qt_ldB evX asX SlIn.h inX omX | exact qt_ldI evX asX SlIn.h inX omX | exact qt_ld2 evX asX SlIn.h inX omX | exact qt_load_own evX asX SlIn.h inX rfl (by simp <;> omega) | exact qt_load rfl _ asX inX rfl rfl) ?_)) | (with_reducible refine Sl.k_field ?_; (first | refine s_qt hst (qt_field rfl inX) ?_ | ((first | refine s_ex hst (qt_fieldp evX asX inX inX rfl) ?_ | refine s_ex hst (qt_field_own evX asX inX) ?_); rintro v hp; (try simp only [Int.toNat_natCast, Int.toNat_natCast_add_one, Int.reduceToNat] at hp)))) | (with_reducible refine Sl.k_index ?_; (first | refine s_qt hst (qt_indexA rfl rfl inX inX omX omX) ?_ | ((first | refine s_ex hst (qt_indexP0 evX asX rfl inX inX) ?_ | refine s_ex hst (qt_indexP1 evX asX rfl inX inX) ?_ | refine s_ex hst (qt_index evX asX rfl inX inX omX omX) ?_ | refine s_ex hst (qt_indexAp evX asX rfl inX inX rfl omX omX) ?_ | refine s_ex hst (qt_index_own hst evX SlIn.h rfl inX inX omX omX) ?_); rintro v hp; (try simp only [Int.toNat_natCast, Int.toNat_natCast_add_one, Int.reduceToNat] at hp)))) | (with_reducible refine Sl.k_call ?_; (first | refine s_qt hst (by first | exact qt_len evX asX inX | exact qt_len_str evX inX | exact qt_len_own evX SlIn.h inX | exact qt_max rfl rfl | exact qt_min rfl rfl) ?_))) <;> (try simp only [Int.toNat_natCast, List.set_cons_succ, List.set_cons_zero, vOf_true, vOf_false, List.drop_succ_cons, List.drop_zero, List.take_succ_cons, List.take_zero, putD, Int.toNat_zero, Int.reduceToNat, Nat.mul_one, Nat.zero_add, Nat.add_zero, Nat.reduceMul, Nat.reduceAdd, Nat.zero_mul, Int.reduceSub, Int.reduceAdd, Int.reduceMul, Int.reduceNeg, Bool.not_true, Bool.not_false])) | (with_reducible refine Sl.gate rfl ?_; (first | go_skip | go_guarded | go_step)) | ((first | ((first | (with_reducible refine Sl.k_store ?_; (first | refine s_stW hst rfl BoxIn.h inX evX omX ?_ | refine s_stU hst evX asX SlIn.h inX evX omX ?_ | refine s_stD hst rfl BoxIn.h inX evX inX lenX ?_ | refine s_stR hst rfl BoxIn.h evX asX inX rfl rfl ?_ | refine s_store hst rfl _ BoxIn.h inX evX rfl lenOk oneOk (by simp) ?_ | refine s_st1 hst rfl BoxIn.h evX asX inX (by simp) ?_ | refine s_stB hst evX asX SlIn.h inX evX omX ?_ | refine s_stI hst evX asX SlIn.h inX evX omX ?_ | refine s_st2 hst evX asX SlIn.h inX evX omX ?_); clear hst; intro w hst) | (refine s_box hst evX rfl ?_; clear hst; intro bx w hst) | (refine s_alloc hst inX ?_; clear hst; intro bk w hst)))) <;> (try simp only [Int.toNat_natCast, List.set_cons_succ, List.set_cons_zero, vOf_true, vOf_false, List.drop_succ_cons, List.drop_zero, List.take_succ_cons, List.take_zero, putD, Int.toNat_zero, Int.reduceToNat, Nat.mul_one, Nat.zero_add, Nat.add_zero, Nat.reduceMul, Nat.reduceAdd, Nat.zero_mul, Int.reduceSub, Int.reduceAdd, Int.reduceMul, Int.reduceNeg, Bool.not_true, Bool.not_false]) <;> (try simp only [List.set_cons_succ, List.set_cons_zero, List.drop_succ_cons, List.drop_zero, List.take_succ_cons, List.take_zero, List.nil_append, List.cons_append, List.append_nil, Value.cells, List.eraseIdx_cons_zero, List.eraseIdx_cons_succ, Nat.zero_add, Nat.add_zero, List.flatten_cons, List.flatten_nil, List.map_cons, List.map_nil] at hst)))
  go_loopw [] (fun wr => ∃ k S2 M2, k ≤ ev.2.2.1.length ∧ S1.Le S2 ∧ J k S2 M2 ∧ St S2 (.box bi [.int .i64 ((k : Nat) : Int)] 3 :: M2) wr) (fun wr => ev.2.2.1.length - cellN wr bi)
  case atStart => exact ⟨0, S1, M, Nat.zero_le _, Snap.Le.refl _, hJ, hst⟩
  case round =>
    clear hst
    obtain ⟨k, S2, M2, hk, hS2, hJ2, hst⟩ := hrel
    have hs := hs.mono hS2
    have hme := cellN_eq hst
    by_cases hlt : k < ev.2.2.1.length
    · have hkl : decide (((k : Nat) : Int) < (ev.2.2.1.length : Int)) = true := decide_eq_true (by omega)
      repeat' ((fail_if_success (with_reducible show Code.wp _ (Code.region 0 _ _) _ _ _)); first | go_skip | ((first | (with_reducible refine Sl.k_guard ?_; (first | (refine Sl.guard_yes rfl ?_) | (refine Sl.guard_no rfl ?_) | (refine Sl.guard_cases rfl ?_ ?_ <;> intro hg <;> first | (exfalso; simp only [decide_eq_true_eq, decide_eq_false_iff_not, Bool.not_false, Bool.not_true, beq_iff_eq, beq_eq_false_iff_ne, ne_eq] at hg; omega) | (simp only [hg, Bool.not_true, Bool.not_false])) <;> (try simp only [decide_eq_true_eq, decide_eq_false_iff_not, Bool.not_false, Bool.not_true, beq_iff_eq, beq_eq_false_iff_ne, bne_iff_ne, bne_eq_false_iff_eq, ne_eq] at hg))) | (with_reducible refine Sl.k_bin ?_; refine s_qt hst (by first | exact qt_xor32 rfl rfl | exact qt_and32 rfl rfl | exact qt_or32 rfl rfl | exact qt_add32 rfl rfl | exact qt_shl32 rfl rfl omX | exact qt_shr32 rfl rfl omX) ?_) | (with_reducible refine Sl.k_conv ?_; refine s_qt hst (by first | exact qt_conv832 rfl inX inX | exact qt_conv3264 rfl inX inX) ?_) | (with_reducible refine Sl.k_conv ?_; refine s_stringI hst evX asX inX inX inX ?_) | (with_reducible refine Sl.k_un ?_; refine s_qt hst (by exact qt_not32 rfl) ?_) | (with_reducible refine Sl.k_build ?_; refine s_qt hst (by exact qt_buildW inX inX inX rfl rfl (by simp only [List.map_cons, List.map_nil, evF, nth]; rfl) (by simp [Value.cells])) ?_) | (with_reducible refine Sl.k_indexV ?_; refine s_qt hst (by exact qt_indexW evX rfl inX inX omX omX omX) ?_)) <;> (try simp only [Int.toNat_natCast, List.set_cons_succ, List.set_cons_zero, vOf_true, vOf_false, List.drop_succ_cons, List.drop_zero, List.take_succ_cons, List.take_zero, putD, Int.toNat_zero, Int.reduceToNat, Nat.mul_one, Nat.zero_add, Nat.add_zero, Nat.reduceMul, Nat.reduceAdd, Nat.zero_mul, Int.reduceSub, Int.reduceAdd, Int.reduceMul, Int.reduceNeg, Bool.not_true, Bool.not_false])) | ((fail_if_success (go_big_may)); (first | go_skip | go_guarded | go_step)) | ((first | (with_reducible refine Sl.k_load ?_; (first | refine s_qt hst (by first | exact qt_loadA evX BoxIn.h inX rfX | exact qt_ldp_flat evX asX inX inX rfl | exact qt_ldW evX BoxIn.h inX omX | exact qt_ldU evX asX SlIn.h inX omX | exact qt_ldp_u32 evX asX inX | exact qt_loadD evX BoxIn.h inX inX | exact qt_load rfl _ BoxIn.h inX rfl rfl) ?_ | (refine s_ex hst (qt_ldp_int evX asX inX) ?_; rintro v ⟨rfl, hI⟩) | refine s_qt hst (by first | exact qt_ldp_u8 evX asX inX | exact qt_ldp_bool evX asX inX) ?_ | (refine s_ex hst (qt_ldp_str evX asX inX) ?_; rintro v ⟨rfl, hs⟩) | (refine s_ex hst (qt_ldp_list evX asX inX) ?_; rintro v ⟨hvl, hv1⟩) | (refine s_ex hst (qt_ldp evX asX inX) ?_; rintro v ⟨cl, rfl, hcl⟩) | refine s_qt hst (by first | exact qt_ldB evX asX SlIn.h inX omX | exact qt_ldI evX asX SlIn.h inX omX | exact qt_ld2 evX asX SlIn.h inX omX | exact qt_load_own evX asX SlIn.h inX rfl (by simp <;> omega) | exact qt_load rfl _ asX inX rfl rfl) ?_)) | (with_reducible refine Sl.k_field ?_; (first | refine s_qt hst (qt_field rfl inX) ?_ | ((first | refine s_ex hst (qt_fieldp evX asX inX inX rfl) ?_ | refine s_ex hst (qt_field_own evX asX inX) ?_); rintro v hp; (try simp only [Int.toNat_natCast, Int.toNat_natCast_add_one, Int.reduceToNat] at hp)))) | (with_reducible refine Sl.k_index ?_; (first | refine s_qt hst (qt_indexA rfl rfl inX inX omX omX) ?_ | ((first | refine s_ex hst (qt_indexP0 evX asX rfl inX inX) ?_ | refine s_ex hst (qt_indexP1 evX asX rfl inX inX) ?_ | refine s_ex hst (qt_index evX asX rfl inX inX omX omX) ?_ | refine s_ex hst (qt_indexAp evX asX rfl inX inX rfl omX omX) ?_ | refine s_ex hst (qt_index_own hst evX SlIn.h rfl inX inX omX omX) ?_); rintro v hp; (try simp only [Int.toNat_natCast, Int.toNat_natCast_add_one, Int.reduceToNat] at hp)))) | (with_reducible refine Sl.k_call ?_; (first | refine s_qt hst (by first | exact qt_len evX asX inX | exact qt_len_str evX inX | exact qt_len_own evX SlIn.h inX | exact qt_max rfl rfl | exact qt_min rfl rfl) ?_))) <;> (try simp only [Int.toNat_natCast, List.set_cons_succ, List.set_cons_zero, vOf_true, vOf_false, List.drop_succ_cons, List.drop_zero, List.take_succ_cons, List.take_zero, putD, Int.toNat_zero, Int.reduceToNat, Nat.mul_one, Nat.zero_add, Nat.add_zero, Nat.reduceMul, Nat.reduceAdd, Nat.zero_mul, Int.reduceSub, Int.reduceAdd, Int.reduceMul, Int.reduceNeg, Bool.not_true, Bool.not_false])) | (with_reducible refine Sl.gate rfl ?_; (first | go_skip | go_guarded | go_step)) | ((first | ((first | (with_reducible refine Sl.k_store ?_; (first | refine s_stW hst rfl BoxIn.h inX evX omX ?_ | refine s_stU hst evX asX SlIn.h inX evX omX ?_ | refine s_stD hst rfl BoxIn.h inX evX inX lenX ?_ | refine s_stR hst rfl BoxIn.h evX asX inX rfl rfl ?_ | refine s_store hst rfl _ BoxIn.h inX evX rfl lenOk oneOk (by simp) ?_ | refine s_st1 hst rfl BoxIn.h evX asX inX (by simp) ?_ | refine s_stB hst evX asX SlIn.h inX evX omX ?_ | refine s_stI hst evX asX SlIn.h inX evX omX ?_ | refine s_st2 hst evX asX SlIn.h inX evX omX ?_); clear hst; intro w hst) | (refine s_box hst evX rfl ?_; clear hst; intro bx w hst) | (refine s_alloc hst inX ?_; clear hst; intro bk w hst)))) <;> (try simp only [Int.toNat_natCast, List.set_cons_succ, List.set_cons_zero, vOf_true, vOf_false, List.drop_succ_cons, List.drop_zero, List.take_succ_cons, List.take_zero, putD, Int.toNat_zero, Int.reduceToNat, Nat.mul_one, Nat.zero_add, Nat.add_zero, Nat.reduceMul, Nat.reduceAdd, Nat.zero_mul, Int.reduceSub, Int.reduceAdd, Int.reduceMul, Int.reduceNeg, Bool.not_true, Bool.not_false]) <;> (try simp only [List.set_cons_succ, List.set_cons_zero, List.drop_succ_cons, List.drop_zero, List.take_succ_cons, List.take_zero, List.nil_append, List.cons_append, List.append_nil, Value.cells, List.eraseIdx_cons_zero, List.eraseIdx_cons_succ, Nat.zero_add, Nat.add_zero, List.flatten_cons, List.flatten_nil, List.map_cons, List.map_nil] at hst)))
      refine (wpIn_wide (n := 0)).1 (region_tailIn (.inl rfl) 20 hst (by kernel_rfl) rfl (by kernel_rfl) ?_)
      simp only [List.take_succ_cons, List.take_zero, List.drop_succ_cons, List.drop_zero]
      repeat (first | ((first | (with_reducible refine Sl.kq_guard ?_; first | (refine Sl.q_guard_yes rfl ?_) | (refine Sl.q_guard_no rfl ?_)) | (with_reducible refine Sl.kq_load ?_; (first | refine q_qt (by first | exact qt_loadA evX BoxIn.h inX rfX | exact qt_ldp_flat evX asX inX inX rfl | exact qt_ldW evX BoxIn.h inX omX | exact qt_ldU evX asX SlIn.h inX omX | exact qt_ldp_u32 evX asX inX | exact qt_loadD evX BoxIn.h inX inX | exact qt_load rfl _ BoxIn.h inX rfl rfl) ?_ | (refine q_ex (qt_ldp_int evX asX inX) ?_; rintro v ⟨rfl, hI⟩) | refine q_qt (by first | exact qt_ldp_u8 evX asX inX | exact qt_ldp_bool evX asX inX) ?_ | (refine q_ex (qt_ldp_str evX asX inX) ?_; rintro v ⟨rfl, hs⟩) | (refine q_ex (qt_ldp_list evX asX inX) ?_; rintro v ⟨hvl, hv1⟩) | (refine q_ex (qt_ldp evX asX inX) ?_; rintro v ⟨cl, rfl, hcl⟩) | refine q_qt (by first | exact qt_ldB evX asX SlIn.h inX omX | exact qt_ldI evX asX SlIn.h inX omX | exact qt_ld2 evX asX SlIn.h inX omX | exact qt_load_own evX asX SlIn.h inX rfl (by simp <;> omega) | exact qt_load rfl _ asX inX rfl rfl) ?_)) | (with_reducible refine Sl.kq_field ?_; (first | refine q_qt (qt_field rfl inX) ?_ | ((first | refine q_ex (qt_fieldp evX asX inX inX rfl) ?_ | refine q_ex (qt_field_own evX asX inX) ?_); rintro v hp; (try simp only [Int.toNat_natCast, Int.toNat_natCast_add_one, Int.reduceToNat] at hp)))) | (with_reducible refine Sl.kq_index ?_; (first | refine q_qt (qt_indexA rfl rfl inX inX omX omX) ?_ | ((first | refine q_ex (qt_indexP0 evX asX rfl inX inX) ?_ | refine q_ex (qt_indexP1 evX asX rfl inX inX) ?_ | refine q_ex (qt_index evX asX rfl inX inX omX omX) ?_ | refine q_ex (qt_indexAp evX asX rfl inX inX rfl omX omX) ?_ | refine q_ex (qt_index_own hst evX SlIn.h rfl inX inX omX omX) ?_); rintro v hp; (try simp only [Int.toNat_natCast, Int.toNat_natCast_add_one, Int.reduceToNat] at hp)))) | (with_reducible refine Sl.kq_call ?_; (first | refine q_qt (by first | exact qt_len evX asX inX | exact qt_len_str evX inX | exact qt_len_own evX SlIn.h inX | exact qt_max rfl rfl | exact qt_min rfl rfl) ?_)) | (refine Sl.kq_plain rfl ?_; (first | (first | refine q_qt (qt_neq_b rfl rfl asX) ?_ | refine q_qt (qt_eql_b rfl rfl asX) ?_ | refine q_qt (qt_lss_b rfl rfl asX) ?_ | refine q_qt (qt_gtr_b rfl rfl asX) ?_) | refine q_qt (qt_buildS (cs := kyC (kyN ev.2.2.1[k])) inX inX rfl) ?_ | refine q_qt (by first | exact qt_xor32 rfl rfl | exact qt_and32 rfl rfl | exact qt_or32 rfl rfl | exact qt_add32 rfl rfl | exact qt_shl32 rfl rfl omX | exact qt_shr32 rfl rfl omX | exact qt_not32 rfl | exact qt_conv832 rfl inX inX | exact qt_conv3264 rfl inX inX | exact qt_move evX | exact qt_assign evX | exact qt_pick_t rfl evX | exact qt_pick_f rfl evX | exact qt_not rfl | exact qt_lss rfl rfl | exact qt_leq rfl rfl | exact qt_gtr rfl rfl | exact qt_geq rfl rfl | exact qt_eql rfl rfl | exact qt_neq rfl rfl | exact qt_add' rfl rfl omX | exact qt_sub' rfl rfl omX | exact qt_mul' rfl rfl omX | exact qt_buildW inX inX inX rfl rfl (by simp only [List.map_cons, List.map_nil, evF, nth]; rfl) (by simp [Value.cells]) | exact qt_indexW evX rfl inX inX omX omX omX) ?_))) <;> (try simp only [Int.toNat_natCast, List.set_cons_succ, List.set_cons_zero, vOf_true, vOf_false, List.drop_succ_cons, List.drop_zero, List.take_succ_cons, List.take_zero, putD, Int.toNat_zero, Int.reduceToNat, Nat.mul_one, Nat.zero_add, Nat.add_zero, Nat.reduceMul, Nat.reduceAdd, Nat.zero_mul, Int.reduceSub, Int.reduceAdd, Int.reduceMul, Int.reduceNeg, Bool.not_true, Bool.not_false])) | (refine Sl.kq_plain rfl ?_; first | (go_big_quiet_want; go_big_quiet_op; go_big_quiet_on)))
      refine q_nil ?_; clear hst; intro w hst
      have hst' : St S2 ([.box bi [.int .i64 (k : Nat)] 3] ++ (M2 ++ [])) w := by rw [List.append_nil]; exact hst
      refine guardIn_yes rfl (in_yieldF (.inl rfl) evX rfl (yieldAt_or (hY k hlt _ ⟨_, kyN_get hlt, rfl⟩ S2 M2 [] w (hS1.trans hS2) hJ2 hst')) ?_)
      clear hst hst'
      rintro v w (⟨rfl, -, S3, M3, hS3, hJ3, hst⟩ | ⟨rfl, S3, M3, hS3, hX3, hst⟩)
      · rw [List.append_nil] at hst
        (try simp only [Int.toNat_natCast, List.set_cons_succ, List.set_cons_zero, vOf_true, vOf_false, List.drop_succ_cons, List.drop_zero, List.take_succ_cons, List.take_zero, putD, Int.toNat_zero, Int.reduceToNat, Nat.mul_one, Nat.zero_add, Nat.add_zero, Nat.reduceMul, Nat.reduceAdd, Nat.zero_mul, Int.reduceSub, Int.reduceAdd, Int.reduceMul, Int.reduceNeg, Bool.not_true, Bool.not_false])
        refine in_plain (.inl rfl) ?_ rfl ?_
        · with_unfolding_all (rintro ⟨a, w, ⟨v, hv⟩, _⟩; cases hv)
        · repeat' (first | go_skip | ((first | (with_reducible refine Sl.k_guard ?_; (first | (refine Sl.guard_yes rfl ?_) | (refine Sl.guard_no rfl ?_) | (refine Sl.guard_cases rfl ?_ ?_ <;> intro hg <;> first | (exfalso; simp only [decide_eq_true_eq, decide_eq_false_iff_not, Bool.not_false, Bool.not_true, beq_iff_eq, beq_eq_false_iff_ne, ne_eq] at hg; omega) | (simp only [hg, Bool.not_true, Bool.not_false])) <;> (try simp only [decide_eq_true_eq, decide_eq_false_iff_not, Bool.not_false, Bool.not_true, beq_iff_eq, beq_eq_false_iff_ne, bne_iff_ne, bne_eq_false_iff_eq, ne_eq] at hg))) | (with_reducible refine Sl.k_bin ?_; refine s_qt hst (by first | exact qt_xor32 rfl rfl | exact qt_and32 rfl rfl | exact qt_or32 rfl rfl | exact qt_add32 rfl rfl | exact qt_shl32 rfl rfl omX | exact qt_shr32 rfl rfl omX) ?_) | (with_reducible refine Sl.k_conv ?_; refine s_qt hst (by first | exact qt_conv832 rfl inX inX | exact qt_conv3264 rfl inX inX) ?_) | (with_reducible refine Sl.k_conv ?_; refine s_stringI hst evX asX inX inX inX ?_) | (with_reducible refine Sl.k_un ?_; refine s_qt hst (by exact qt_not32 rfl) ?_) | (with_reducible refine Sl.k_build ?_; refine s_qt hst (by exact qt_buildW inX inX inX rfl rfl (by simp only [List.map_cons, List.map_nil, evF, nth]; rfl) (by simp [Value.cells])) ?_) | (with_reducible refine Sl.k_indexV ?_; refine s_qt hst (by exact qt_indexW evX rfl inX inX omX omX omX) ?_)) <;> (try simp only [Int.toNat_natCast, List.set_cons_succ, List.set_cons_zero, vOf_true, vOf_false, List.drop_succ_cons, List.drop_zero, List.take_succ_cons, List.take_zero, putD, Int.toNat_zero, Int.reduceToNat, Nat.mul_one, Nat.zero_add, Nat.add_zero, Nat.reduceMul, Nat.reduceAdd, Nat.zero_mul, Int.reduceSub, Int.reduceAdd, Int.reduceMul, Int.reduceNeg, Bool.not_true, Bool.not_false])) | ((fail_if_success (go_big_may)); (first | go_skip | go_guarded | go_step)) | ((first | (with_reducible refine Sl.k_load ?_; (first | refine s_qt hst (by first | exact qt_loadA evX BoxIn.h inX rfX | exact qt_ldp_flat evX asX inX inX rfl | exact qt_ldW evX BoxIn.h inX omX | exact qt_ldU evX asX SlIn.h inX omX | exact qt_ldp_u32 evX asX inX | exact qt_loadD evX BoxIn.h inX inX | exact qt_load rfl _ BoxIn.h inX rfl rfl) ?_ | (refine s_ex hst (qt_ldp_int evX asX inX) ?_; rintro v ⟨rfl, hI⟩) | refine s_qt hst (by first | exact qt_ldp_u8 evX asX inX | exact qt_ldp_bool evX asX inX) ?_ | (refine s_ex hst (qt_ldp_str evX asX inX) ?_; rintro v ⟨rfl, hs⟩) | (refine s_ex hst (qt_ldp_list evX asX inX) ?_; rintro v ⟨hvl, hv1⟩) | (refine s_ex hst (qt_ldp evX asX inX) ?_; rintro v ⟨cl, rfl, hcl⟩) | refine s_qt hst (by first | exact qt_ldB evX asX SlIn.h inX omX | exact qt_ldI evX asX SlIn.h inX omX | exact qt_ld2 evX asX SlIn.h inX omX | exact qt_load_own evX asX SlIn.h inX rfl (by simp <;> omega) | exact qt_load rfl _ asX inX rfl rfl) ?_)) | (with_reducible refine Sl.k_field ?_; (first | refine s_qt hst (qt_field rfl inX) ?_ | ((first | refine s_ex hst (qt_fieldp evX asX inX inX rfl) ?_ | refine s_ex hst (qt_field_own evX asX inX) ?_); rintro v hp; (try simp only [Int.toNat_natCast, Int.toNat_natCast_add_one, Int.reduceToNat] at hp)))) | (with_reducible refine Sl.k_index ?_; (first | refine s_qt hst (qt_indexA rfl rfl inX inX omX omX) ?_ | ((first | refine s_ex hst (qt_indexP0 evX asX rfl inX inX) ?_ | refine s_ex hst (qt_indexP1 evX asX rfl inX inX) ?_ | refine s_ex hst (qt_index evX asX rfl inX inX omX omX) ?_ | refine s_ex hst (qt_indexAp evX asX rfl inX inX rfl omX omX) ?_ | refine s_ex hst (qt_index_own hst evX SlIn.h rfl inX inX omX omX) ?_); rintro v hp; (try simp only [Int.toNat_natCast, Int.toNat_natCast_add_one, Int.reduceToNat] at hp)))) | (with_reducible refine Sl.k_call ?_; (first | refine s_qt hst (by first | exact qt_len evX asX inX | exact qt_len_str evX inX | exact qt_len_own evX SlIn.h inX | exact qt_max rfl rfl | exact qt_min rfl rfl) ?_))) <;> (try simp only [Int.toNat_natCast, List.set_cons_succ, List.set_cons_zero, vOf_true, vOf_false, List.drop_succ_cons, List.drop_zero, List.take_succ_cons, List.take_zero, putD, Int.toNat_zero, Int.reduceToNat, Nat.mul_one, Nat.zero_add, Nat.add_zero, Nat.reduceMul, Nat.reduceAdd, Nat.zero_mul, Int.reduceSub, Int.reduceAdd, Int.reduceMul, Int.reduceNeg, Bool.not_true, Bool.not_false])) | (with_reducible refine Sl.gate rfl ?_; (first | go_skip | go_guarded | go_step)) | ((first | ((first | (with_reducible refine Sl.k_store ?_; (first | refine s_stW hst rfl BoxIn.h inX evX omX ?_ | refine s_stU hst evX asX SlIn.h inX evX omX ?_ | refine s_stD hst rfl BoxIn.h inX evX inX lenX ?_ | refine s_stR hst rfl BoxIn.h evX asX inX rfl rfl ?_ | refine s_store hst rfl _ BoxIn.h inX evX rfl lenOk oneOk (by simp) ?_ | refine s_st1 hst rfl BoxIn.h evX asX inX (by simp) ?_ | refine s_stB hst evX asX SlIn.h inX evX omX ?_ | refine s_stI hst evX asX SlIn.h inX evX omX ?_ | refine s_st2 hst evX asX SlIn.h inX evX omX ?_); clear hst; intro w hst) | (refine s_box hst evX rfl ?_; clear hst; intro bx w hst) | (refine s_alloc hst inX ?_; clear hst; intro bk w hst)))) <;> (try simp only [Int.toNat_natCast, List.set_cons_succ, List.set_cons_zero, vOf_true, vOf_false, List.drop_succ_cons, List.drop_zero, List.take_succ_cons, List.take_zero, putD, Int.toNat_zero, Int.reduceToNat, Nat.mul_one, Nat.zero_add, Nat.add_zero, Nat.reduceMul, Nat.reduceAdd, Nat.zero_mul, Int.reduceSub, Int.reduceAdd, Int.reduceMul, Int.reduceNeg, Bool.not_true, Bool.not_false]) <;> (try simp only [List.set_cons_succ, List.set_cons_zero, List.drop_succ_cons, List.drop_zero, List.take_succ_cons, List.take_zero, List.nil_append, List.cons_append, List.append_nil, Value.cells, List.eraseIdx_cons_zero, List.eraseIdx_cons_succ, Nat.zero_add, Nat.add_zero, List.flatten_cons, List.flatten_nil, List.map_cons, List.map_nil] at hst)))
          have hst2 : St S3 (.box bi [.int .i64 ((k + 1 : Nat) : Int)] 3 :: M3) w := hst
          have hme2 := cellN_eq hst2
          go_roundw
          case rel => exact ⟨k + 1, S3, M3, by omega, hS2.trans hS3, hJ3, hst2⟩
          case measure => rw [hme, hme2]; omega
      · rw [List.append_nil] at hst
        (try simp only [Int.toNat_natCast, List.set_cons_succ, List.set_cons_zero, vOf_true, vOf_false, List.drop_succ_cons, List.drop_zero, List.take_succ_cons, List.take_zero, putD, Int.toNat_zero, Int.reduceToNat, Nat.mul_one, Nat.zero_add, Nat.add_zero, Nat.reduceMul, Nat.reduceAdd, Nat.zero_mul, Int.reduceSub, Int.reduceAdd, Int.reduceMul, Int.reduceNeg, Bool.not_true, Bool.not_false])
        refine in_plain (.inl rfl) ?_ rfl ?_
        · with_unfolding_all (rintro ⟨a, w, ⟨v, hv⟩, _⟩; cases hv)
        · repeat' (first | go_skip | ((first | (with_reducible refine Sl.k_guard ?_; (first | (refine Sl.guard_yes rfl ?_) | (refine Sl.guard_no rfl ?_) | (refine Sl.guard_cases rfl ?_ ?_ <;> intro hg <;> first | (exfalso; simp only [decide_eq_true_eq, decide_eq_false_iff_not, Bool.not_false, Bool.not_true, beq_iff_eq, beq_eq_false_iff_ne, ne_eq] at hg; omega) | (simp only [hg, Bool.not_true, Bool.not_false])) <;> (try simp only [decide_eq_true_eq, decide_eq_false_iff_not, Bool.not_false, Bool.not_true, beq_iff_eq, beq_eq_false_iff_ne, bne_iff_ne, bne_eq_false_iff_eq, ne_eq] at hg))) | (with_reducible refine Sl.k_bin ?_; refine s_qt hst (by first | exact qt_xor32 rfl rfl | exact qt_and32 rfl rfl | exact qt_or32 rfl rfl | exact qt_add32 rfl rfl | exact qt_shl32 rfl rfl omX | exact qt_shr32 rfl rfl omX) ?_) | (with_reducible refine Sl.k_conv ?_; refine s_qt hst (by first | exact qt_conv832 rfl inX inX | exact qt_conv3264 rfl inX inX) ?_) | (with_reducible refine Sl.k_conv ?_; refine s_stringI hst evX asX inX inX inX ?_) | (with_reducible refine Sl.k_un ?_; refine s_qt hst (by exact qt_not32 rfl) ?_) | (with_reducible refine Sl.k_build ?_; refine s_qt hst (by exact qt_buildW inX inX inX rfl rfl (by simp only [List.map_cons, List.map_nil, evF, nth]; rfl) (by simp [Value.cells])) ?_) | (with_reducible refine Sl.k_indexV ?_; refine s_qt hst (by exact qt_indexW evX rfl inX inX omX omX omX) ?_)) <;> (try simp only [Int.toNat_natCast, List.set_cons_succ, List.set_cons_zero, vOf_true, vOf_false, List.drop_succ_cons, List.drop_zero, List.take_succ_cons, List.take_zero, putD, Int.toNat_zero, Int.reduceToNat, Nat.mul_one, Nat.zero_add, Nat.add_zero, Nat.reduceMul, Nat.reduceAdd, Nat.zero_mul, Int.reduceSub, Int.reduceAdd, Int.reduceMul, Int.reduceNeg, Bool.not_true, Bool.not_false])) | ((fail_if_success (go_big_may)); (first | go_skip | go_guarded | go_step)) | ((first | (with_reducible refine Sl.k_load ?_; (first | refine s_qt hst (by first | exact qt_loadA evX BoxIn.h inX rfX | exact qt_ldp_flat evX asX inX inX rfl | exact qt_ldW evX BoxIn.h inX omX | exact qt_ldU evX asX SlIn.h inX omX | exact qt_ldp_u32 evX asX inX | exact qt_loadD evX BoxIn.h inX inX | exact qt_load rfl _ BoxIn.h inX rfl rfl) ?_ | (refine s_ex hst (qt_ldp_int evX asX inX) ?_; rintro v ⟨rfl, hI⟩) | refine s_qt hst (by first | exact qt_ldp_u8 evX asX inX | exact qt_ldp_bool evX asX inX) ?_ | (refine s_ex hst (qt_ldp_str evX asX inX) ?_; rintro v ⟨rfl, hs⟩) | (refine s_ex hst (qt_ldp_list evX asX inX) ?_; rintro v ⟨hvl, hv1⟩) | (refine s_ex hst (qt_ldp evX asX inX) ?_; rintro v ⟨cl, rfl, hcl⟩) | refine s_qt hst (by first | exact qt_ldB evX asX SlIn.h inX omX | exact qt_ldI evX asX SlIn.h inX omX | exact qt_ld2 evX asX SlIn.h inX omX | exact qt_load_own evX asX SlIn.h inX rfl (by simp <;> omega) | exact qt_load rfl _ asX inX rfl rfl) ?_)) | (with_reducible refine Sl.k_field ?_; (first | refine s_qt hst (qt_field rfl inX) ?_ | ((first | refine s_ex hst (qt_fieldp evX asX inX inX rfl) ?_ | refine s_ex hst (qt_field_own evX asX inX) ?_); rintro v hp; (try simp only [Int.toNat_natCast, Int.toNat_natCast_add_one, Int.reduceToNat] at hp)))) | (with_reducible refine Sl.k_index ?_; (first | refine s_qt hst (qt_indexA rfl rfl inX inX omX omX) ?_ | ((first | refine s_ex hst (qt_indexP0 evX asX rfl inX inX) ?_ | refine s_ex hst (qt_indexP1 evX asX rfl inX inX) ?_ | refine s_ex hst (qt_index evX asX rfl inX inX omX omX) ?_ | refine s_ex hst (qt_indexAp evX asX rfl inX inX rfl omX omX) ?_ | refine s_ex hst (qt_index_own hst evX SlIn.h rfl inX inX omX omX) ?_); rintro v hp; (try simp only [Int.toNat_natCast, Int.toNat_natCast_add_one, Int.reduceToNat] at hp)))) | (with_reducible refine Sl.k_call ?_; (first | refine s_qt hst (by first | exact qt_len evX asX inX | exact qt_len_str evX inX | exact qt_len_own evX SlIn.h inX | exact qt_max rfl rfl | exact qt_min rfl rfl) ?_))) <;> (try simp only [Int.toNat_natCast, List.set_cons_succ, List.set_cons_zero, vOf_true, vOf_false, List.drop_succ_cons, List.drop_zero, List.take_succ_cons, List.take_zero, putD, Int.toNat_zero, Int.reduceToNat, Nat.mul_one, Nat.zero_add, Nat.add_zero, Nat.reduceMul, Nat.reduceAdd, Nat.zero_mul, Int.reduceSub, Int.reduceAdd, Int.reduceMul, Int.reduceNeg, Bool.not_true, Bool.not_false])) | (with_reducible refine Sl.gate rfl ?_; (first | go_skip | go_guarded | go_step)) | ((first | ((first | (with_reducible refine Sl.k_store ?_; (first | refine s_stW hst rfl BoxIn.h inX evX omX ?_ | refine s_stU hst evX asX SlIn.h inX evX omX ?_ | refine s_stD hst rfl BoxIn.h inX evX inX lenX ?_ | refine s_stR hst rfl BoxIn.h evX asX inX rfl rfl ?_ | refine s_store hst rfl _ BoxIn.h inX evX rfl lenOk oneOk (by simp) ?_ | refine s_st1 hst rfl BoxIn.h evX asX inX (by simp) ?_ | refine s_stB hst evX asX SlIn.h inX evX omX ?_ | refine s_stI hst evX asX SlIn.h inX evX omX ?_ | refine s_st2 hst evX asX SlIn.h inX evX omX ?_); clear hst; intro w hst) | (refine s_box hst evX rfl ?_; clear hst; intro bx w hst) | (refine s_alloc hst inX ?_; clear hst; intro bk w hst)))) <;> (try simp only [Int.toNat_natCast, List.set_cons_succ, List.set_cons_zero, vOf_true, vOf_false, List.drop_succ_cons, List.drop_zero, List.take_succ_cons, List.take_zero, putD, Int.toNat_zero, Int.reduceToNat, Nat.mul_one, Nat.zero_add, Nat.add_zero, Nat.reduceMul, Nat.reduceAdd, Nat.zero_mul, Int.reduceSub, Int.reduceAdd, Int.reduceMul, Int.reduceNeg, Bool.not_true, Bool.not_false]) <;> (try simp only [List.set_cons_succ, List.set_cons_zero, List.drop_succ_cons, List.drop_zero, List.take_succ_cons, List.take_zero, List.nil_append, List.cons_append, List.append_nil, Value.cells, List.eraseIdx_cons_zero, List.eraseIdx_cons_succ, Nat.zero_add, Nat.add_zero, List.flatten_cons, List.flatten_nil, List.map_cons, List.map_nil] at hst)))
          go_end0
          exact ⟨⟨_, rfl⟩, S3, M3, hS2.trans hS3, .inr ⟨hX3, k, hlt, hst⟩⟩
    · obtain rfl : k = ev.2.2.1.length := by omega
      have hkl : decide ((ev.2.2.1.length : Int) < (ev.2.2.1.length : Int)) = false := decide_eq_false (by omega)
      repeat' ((fail_if_success (with_reducible show Code.wp _ (Code.region 0 _ _) _ _ _)); first | go_skip | ((first | (with_reducible refine Sl.k_guard ?_; (first | (refine Sl.guard_yes rfl ?_) | (refine Sl.guard_no rfl ?_) | (refine Sl.guard_cases rfl ?_ ?_ <;> intro hg <;> first | (exfalso; simp only [decide_eq_true_eq, decide_eq_false_iff_not, Bool.not_false, Bool.not_true, beq_iff_eq, beq_eq_false_iff_ne, ne_eq] at hg; omega) | (simp only [hg, Bool.not_true, Bool.not_false])) <;> (try simp only [decide_eq_true_eq, decide_eq_false_iff_not, Bool.not_false, Bool.not_true, beq_iff_eq, beq_eq_false_iff_ne, bne_iff_ne, bne_eq_false_iff_eq, ne_eq] at hg))) | (with_reducible refine Sl.k_bin ?_; refine s_qt hst (by first | exact qt_xor32 rfl rfl | exact qt_and32 rfl rfl | exact qt_or32 rfl rfl | exact qt_add32 rfl rfl | exact qt_shl32 rfl rfl omX | exact qt_shr32 rfl rfl omX) ?_) | (with_reducible refine Sl.k_conv ?_; refine s_qt hst (by first | exact qt_conv832 rfl inX inX | exact qt_conv3264 rfl inX inX) ?_) | (with_reducible refine Sl.k_conv ?_; refine s_stringI hst evX asX inX inX inX ?_) | (with_reducible refine Sl.k_un ?_; refine s_qt hst (by exact qt_not32 rfl) ?_) | (with_reducible refine Sl.k_build ?_; refine s_qt hst (by exact qt_buildW inX inX inX rfl rfl (by simp only [List.map_cons, List.map_nil, evF, nth]; rfl) (by simp [Value.cells])) ?_) | (with_reducible refine Sl.k_indexV ?_; refine s_qt hst (by exact qt_indexW evX rfl inX inX omX omX omX) ?_)) <;> (try simp only [Int.toNat_natCast, List.set_cons_succ, List.set_cons_zero, vOf_true, vOf_false, List.drop_succ_cons, List.drop_zero, List.take_succ_cons, List.take_zero, putD, Int.toNat_zero, Int.reduceToNat, Nat.mul_one, Nat.zero_add, Nat.add_zero, Nat.reduceMul, Nat.reduceAdd, Nat.zero_mul, Int.reduceSub, Int.reduceAdd, Int.reduceMul, Int.reduceNeg, Bool.not_true, Bool.not_false])) | ((fail_if_success (go_big_may)); (first | go_skip | go_guarded | go_step)) | ((first | (with_reducible refine Sl.k_load ?_; (first | refine s_qt hst (by first | exact qt_loadA evX BoxIn.h inX rfX | exact qt_ldp_flat evX asX inX inX rfl | exact qt_ldW evX BoxIn.h inX omX | exact qt_ldU evX asX SlIn.h inX omX | exact qt_ldp_u32 evX asX inX | exact qt_loadD evX BoxIn.h inX inX | exact qt_load rfl _ BoxIn.h inX rfl rfl) ?_ | (refine s_ex hst (qt_ldp_int evX asX inX) ?_; rintro v ⟨rfl, hI⟩) | refine s_qt hst (by first | exact qt_ldp_u8 evX asX inX | exact qt_ldp_bool evX asX inX) ?_ | (refine s_ex hst (qt_ldp_str evX asX inX) ?_; rintro v ⟨rfl, hs⟩) | (refine s_ex hst (qt_ldp_list evX asX inX) ?_; rintro v ⟨hvl, hv1⟩) | (refine s_ex hst (qt_ldp evX asX inX) ?_; rintro v ⟨cl, rfl, hcl⟩) | refine s_qt hst (by first | exact qt_ldB evX asX SlIn.h inX omX | exact qt_ldI evX asX SlIn.h inX omX | exact qt_ld2 evX asX SlIn.h inX omX | exact qt_load_own evX asX SlIn.h inX rfl (by simp <;> omega) | exact qt_load rfl _ asX inX rfl rfl) ?_)) | (with_reducible refine Sl.k_field ?_; (first | refine s_qt hst (qt_field rfl inX) ?_ | ((first | refine s_ex hst (qt_fieldp evX asX inX inX rfl) ?_ | refine s_ex hst (qt_field_own evX asX inX) ?_); rintro v hp; (try simp only [Int.toNat_natCast, Int.toNat_natCast_add_one, Int.reduceToNat] at hp)))) | (with_reducible refine Sl.k_index ?_; (first | refine s_qt hst (qt_indexA rfl rfl inX inX omX omX) ?_ | ((first | refine s_ex hst (qt_indexP0 evX asX rfl inX inX) ?_ | refine s_ex hst (qt_indexP1 evX asX rfl inX inX) ?_ | refine s_ex hst (qt_index evX asX rfl inX inX omX omX) ?_ | refine s_ex hst (qt_indexAp evX asX rfl inX inX rfl omX omX) ?_ | refine s_ex hst (qt_index_own hst evX SlIn.h rfl inX inX omX omX) ?_); rintro v hp; (try simp only [Int.toNat_natCast, Int.toNat_natCast_add_one, Int.reduceToNat] at hp)))) | (with_reducible refine Sl.k_call ?_; (first | refine s_qt hst (by first | exact qt_len evX asX inX | exact qt_len_str evX inX | exact qt_len_own evX SlIn.h inX | exact qt_max rfl rfl | exact qt_min rfl rfl) ?_))) <;> (try simp only [Int.toNat_natCast, List.set_cons_succ, List.set_cons_zero, vOf_true, vOf_false, List.drop_succ_cons, List.drop_zero, List.take_succ_cons, List.take_zero, putD, Int.toNat_zero, Int.reduceToNat, Nat.mul_one, Nat.zero_add, Nat.add_zero, Nat.reduceMul, Nat.reduceAdd, Nat.zero_mul, Int.reduceSub, Int.reduceAdd, Int.reduceMul, Int.reduceNeg, Bool.not_true, Bool.not_false])) | (with_reducible refine Sl.gate rfl ?_; (first | go_skip | go_guarded | go_step)) | ((first | ((first | (with_reducible refine Sl.k_store ?_; (first | refine s_stW hst rfl BoxIn.h inX evX omX ?_ | refine s_stU hst evX asX SlIn.h inX evX omX ?_ | refine s_stD hst rfl BoxIn.h inX evX inX lenX ?_ | refine s_stR hst rfl BoxIn.h evX asX inX rfl rfl ?_ | refine s_store hst rfl _ BoxIn.h inX evX rfl lenOk oneOk (by simp) ?_ | refine s_st1 hst rfl BoxIn.h evX asX inX (by simp) ?_ | refine s_stB hst evX asX SlIn.h inX evX omX ?_ | refine s_stI hst evX asX SlIn.h inX evX omX ?_ | refine s_st2 hst evX asX SlIn.h inX evX omX ?_); clear hst; intro w hst) | (refine s_box hst evX rfl ?_; clear hst; intro bx w hst) | (refine s_alloc hst inX ?_; clear hst; intro bk w hst)))) <;> (try simp only [Int.toNat_natCast, List.set_cons_succ, List.set_cons_zero, vOf_true, vOf_false, List.drop_succ_cons, List.drop_zero, List.take_succ_cons, List.take_zero, putD, Int.toNat_zero, Int.reduceToNat, Nat.mul_one, Nat.zero_add, Nat.add_zero, Nat.reduceMul, Nat.reduceAdd, Nat.zero_mul, Int.reduceSub, Int.reduceAdd, Int.reduceMul, Int.reduceNeg, Bool.not_true, Bool.not_false]) <;> (try simp only [List.set_cons_succ, List.set_cons_zero, List.drop_succ_cons, List.drop_zero, List.take_succ_cons, List.take_zero, List.nil_append, List.cons_append, List.append_nil, Value.cells, List.eraseIdx_cons_zero, List.eraseIdx_cons_succ, Nat.zero_add, Nat.add_zero, List.flatten_cons, List.flatten_nil, List.map_cons, List.map_nil] at hst)))
      refine region_quiet hst (by kernel_rfl) (by kernel_rfl) ?_
      repeat (first | ((first | (with_reducible refine Sl.kq_guard ?_; first | (refine Sl.q_guard_yes rfl ?_) | (refine Sl.q_guard_no rfl ?_)) | (with_reducible refine Sl.kq_load ?_; (first | refine q_qt (by first | exact qt_loadA evX BoxIn.h inX rfX | exact qt_ldp_flat evX asX inX inX rfl | exact qt_ldW evX BoxIn.h inX omX | exact qt_ldU evX asX SlIn.h inX omX | exact qt_ldp_u32 evX asX inX | exact qt_loadD evX BoxIn.h inX inX | exact qt_load rfl _ BoxIn.h inX rfl rfl) ?_ | (refine q_ex (qt_ldp_int evX asX inX) ?_; rintro v ⟨rfl, hI⟩) | refine q_qt (by first | exact qt_ldp_u8 evX asX inX | exact qt_ldp_bool evX asX inX) ?_ | (refine q_ex (qt_ldp_str evX asX inX) ?_; rintro v ⟨rfl, hs⟩) | (refine q_ex (qt_ldp_list evX asX inX) ?_; rintro v ⟨hvl, hv1⟩) | (refine q_ex (qt_ldp evX asX inX) ?_; rintro v ⟨cl, rfl, hcl⟩) | refine q_qt (by first | exact qt_ldB evX asX SlIn.h inX omX | exact qt_ldI evX asX SlIn.h inX omX | exact qt_ld2 evX asX SlIn.h inX omX | exact qt_load_own evX asX SlIn.h inX rfl (by simp <;> omega) | exact qt_load rfl _ asX inX rfl rfl) ?_)) | (with_reducible refine Sl.kq_field ?_; (first | refine q_qt (qt_field rfl inX) ?_ | ((first | refine q_ex (qt_fieldp evX asX inX inX rfl) ?_ | refine q_ex (qt_field_own evX asX inX) ?_); rintro v hp; (try simp only [Int.toNat_natCast, Int.toNat_natCast_add_one, Int.reduceToNat] at hp)))) | (with_reducible refine Sl.kq_index ?_; (first | refine q_qt (qt_indexA rfl rfl inX inX omX omX) ?_ | ((first | refine q_ex (qt_indexP0 evX asX rfl inX inX) ?_ | refine q_ex (qt_indexP1 evX asX rfl inX inX) ?_ | refine q_ex (qt_index evX asX rfl inX inX omX omX) ?_ | refine q_ex (qt_indexAp evX asX rfl inX inX rfl omX omX) ?_ | refine q_ex (qt_index_own hst evX SlIn.h rfl inX inX omX omX) ?_); rintro v hp; (try simp only [Int.toNat_natCast, Int.toNat_natCast_add_one, Int.reduceToNat] at hp)))) | (with_reducible refine Sl.kq_call ?_; (first | refine q_qt (by first | exact qt_len evX asX inX | exact qt_len_str evX inX | exact qt_len_own evX SlIn.h inX | exact qt_max rfl rfl | exact qt_min rfl rfl) ?_)) | (refine Sl.kq_plain rfl ?_; (first | (first | refine q_qt (qt_neq_b rfl rfl asX) ?_ | refine q_qt (qt_eql_b rfl rfl asX) ?_ | refine q_qt (qt_lss_b rfl rfl asX) ?_ | refine q_qt (qt_gtr_b rfl rfl asX) ?_) | refine q_qt (by first | exact qt_xor32 rfl rfl | exact qt_and32 rfl rfl | exact qt_or32 rfl rfl | exact qt_add32 rfl rfl | exact qt_shl32 rfl rfl omX | exact qt_shr32 rfl rfl omX | exact qt_not32 rfl | exact qt_conv832 rfl inX inX | exact qt_conv3264 rfl inX inX | exact qt_move evX | exact qt_assign evX | exact qt_pick_t rfl evX | exact qt_pick_f rfl evX | exact qt_not rfl | exact qt_lss rfl rfl | exact qt_leq rfl rfl | exact qt_gtr rfl rfl | exact qt_geq rfl rfl | exact qt_eql rfl rfl | exact qt_neq rfl rfl | exact qt_add' rfl rfl omX | exact qt_sub' rfl rfl omX | exact qt_mul' rfl rfl omX | exact qt_buildW inX inX inX rfl rfl (by simp only [List.map_cons, List.map_nil, evF, nth]; rfl) (by simp [Value.cells]) | exact qt_indexW evX rfl inX inX omX omX omX) ?_))) <;> (try simp only [Int.toNat_natCast, List.set_cons_succ, List.set_cons_zero, vOf_true, vOf_false, List.drop_succ_cons, List.drop_zero, List.take_succ_cons, List.take_zero, putD, Int.toNat_zero, Int.reduceToNat, Nat.mul_one, Nat.zero_add, Nat.add_zero, Nat.reduceMul, Nat.reduceAdd, Nat.zero_mul, Int.reduceSub, Int.reduceAdd, Int.reduceMul, Int.reduceNeg, Bool.not_true, Bool.not_false])) | (refine Sl.kq_plain rfl ?_; first | (go_big_quiet_want; go_big_quiet_op; go_big_quiet_on)))
      refine q_nil ?_; clear hst; intro w hst
      repeat' (first | go_skip | ((first | (with_reducible refine Sl.k_guard ?_; (first | (refine Sl.guard_yes rfl ?_) | (refine Sl.guard_no rfl ?_) | (refine Sl.guard_cases rfl ?_ ?_ <;> intro hg <;> first | (exfalso; simp only [decide_eq_true_eq, decide_eq_false_iff_not, Bool.not_false, Bool.not_true, beq_iff_eq, beq_eq_false_iff_ne, ne_eq] at hg; omega) | (simp only [hg, Bool.not_true, Bool.not_false])) <;> (try simp only [decide_eq_true_eq, decide_eq_false_iff_not, Bool.not_false, Bool.not_true, beq_iff_eq, beq_eq_false_iff_ne, bne_iff_ne, bne_eq_false_iff_eq, ne_eq] at hg))) | (with_reducible refine Sl.k_bin ?_; refine s_qt hst (by first | exact qt_xor32 rfl rfl | exact qt_and32 rfl rfl | exact qt_or32 rfl rfl | exact qt_add32 rfl rfl | exact qt_shl32 rfl rfl omX | exact qt_shr32 rfl rfl omX) ?_) | (with_reducible refine Sl.k_conv ?_; refine s_qt hst (by first | exact qt_conv832 rfl inX inX | exact qt_conv3264 rfl inX inX) ?_) | (with_reducible refine Sl.k_conv ?_; refine s_stringI hst evX asX inX inX inX ?_) | (with_reducible refine Sl.k_un ?_; refine s_qt hst (by exact qt_not32 rfl) ?_) | (with_reducible refine Sl.k_build ?_; refine s_qt hst (by exact qt_buildW inX inX inX rfl rfl (by simp only [List.map_cons, List.map_nil, evF, nth]; rfl) (by simp [Value.cells])) ?_) | (with_reducible refine Sl.k_indexV ?_; refine s_qt hst (by exact qt_indexW evX rfl inX inX omX omX omX) ?_)) <;> (try simp only [Int.toNat_natCast, List.set_cons_succ, List.set_cons_zero, vOf_true, vOf_false, List.drop_succ_cons, List.drop_zero, List.take_succ_cons, List.take_zero, putD, Int.toNat_zero, Int.reduceToNat, Nat.mul_one, Nat.zero_add, Nat.add_zero, Nat.reduceMul, Nat.reduceAdd, Nat.zero_mul, Int.reduceSub, Int.reduceAdd, Int.reduceMul, Int.reduceNeg, Bool.not_true, Bool.not_false])) | ((fail_if_success (go_big_may)); (first | go_skip | go_guarded | go_step)) | ((first | (with_reducible refine Sl.k_load ?_; (first | refine s_qt hst (by first | exact qt_loadA evX BoxIn.h inX rfX | exact qt_ldp_flat evX asX inX inX rfl | exact qt_ldW evX BoxIn.h inX omX | exact qt_ldU evX asX SlIn.h inX omX | exact qt_ldp_u32 evX asX inX | exact qt_loadD evX BoxIn.h inX inX | exact qt_load rfl _ BoxIn.h inX rfl rfl) ?_ | (refine s_ex hst (qt_ldp_int evX asX inX) ?_; rintro v ⟨rfl, hI⟩) | refine s_qt hst (by first | exact qt_ldp_u8 evX asX inX | exact qt_ldp_bool evX asX inX) ?_ | (refine s_ex hst (qt_ldp_str evX asX inX) ?_; rintro v ⟨rfl, hs⟩) | (refine s_ex hst (qt_ldp_list evX asX inX) ?_; rintro v ⟨hvl, hv1⟩) | (refine s_ex hst (qt_ldp evX asX inX) ?_; rintro v ⟨cl, rfl, hcl⟩) | refine s_qt hst (by first | exact qt_ldB evX asX SlIn.h inX omX | exact qt_ldI evX asX SlIn.h inX omX | exact qt_ld2 evX asX SlIn.h inX omX | exact qt_load_own evX asX SlIn.h inX rfl (by simp <;> omega) | exact qt_load rfl _ asX inX rfl rfl) ?_)) | (with_reducible refine Sl.k_field ?_; (first | refine s_qt hst (qt_field rfl inX) ?_ | ((first | refine s_ex hst (qt_fieldp evX asX inX inX rfl) ?_ | refine s_ex hst (qt_field_own evX asX inX) ?_); rintro v hp; (try simp only [Int.toNat_natCast, Int.toNat_natCast_add_one, Int.reduceToNat] at hp)))) | (with_reducible refine Sl.k_index ?_; (first | refine s_qt hst (qt_indexA rfl rfl inX inX omX omX) ?_ | ((first | refine s_ex hst (qt_indexP0 evX asX rfl inX inX) ?_ | refine s_ex hst (qt_indexP1 evX asX rfl inX inX) ?_ | refine s_ex hst (qt_index evX asX rfl inX inX omX omX) ?_ | refine s_ex hst (qt_indexAp evX asX rfl inX inX rfl omX omX) ?_ | refine s_ex hst (qt_index_own hst evX SlIn.h rfl inX inX omX omX) ?_); rintro v hp; (try simp only [Int.toNat_natCast, Int.toNat_natCast_add_one, Int.reduceToNat] at hp)))) | (with_reducible refine Sl.k_call ?_; (first | refine s_qt hst (by first | exact qt_len evX asX inX | exact qt_len_str evX inX | exact qt_len_own evX SlIn.h inX | exact qt_max rfl rfl | exact qt_min rfl rfl) ?_))) <;> (try simp only [Int.toNat_natCast, List.set_cons_succ, List.set_cons_zero, vOf_true, vOf_false, List.drop_succ_cons, List.drop_zero, List.take_succ_cons, List.take_zero, putD, Int.toNat_zero, Int.reduceToNat, Nat.mul_one, Nat.zero_add, Nat.add_zero, Nat.reduceMul, Nat.reduceAdd, Nat.zero_mul, Int.reduceSub, Int.reduceAdd, Int.reduceMul, Int.reduceNeg, Bool.not_true, Bool.not_false])) | (with_reducible refine Sl.gate rfl ?_; (first | go_skip | go_guarded | go_step)) | ((first | ((first | (with_reducible refine Sl.k_store ?_; (first | refine s_stW hst rfl BoxIn.h inX evX omX ?_ | refine s_stU hst evX asX SlIn.h inX evX omX ?_ | refine s_stD hst rfl BoxIn.h inX evX inX lenX ?_ | refine s_stR hst rfl BoxIn.h evX asX inX rfl rfl ?_ | refine s_store hst rfl _ BoxIn.h inX evX rfl lenOk oneOk (by simp) ?_ | refine s_st1 hst rfl BoxIn.h evX asX inX (by simp) ?_ | refine s_stB hst evX asX SlIn.h inX evX omX ?_ | refine s_stI hst evX asX SlIn.h inX evX omX ?_ | refine s_st2 hst evX asX SlIn.h inX evX omX ?_); clear hst; intro w hst) | (refine s_box hst evX rfl ?_; clear hst; intro bx w hst) | (refine s_alloc hst inX ?_; clear hst; intro bk w hst)))) <;> (try simp only [Int.toNat_natCast, List.set_cons_succ, List.set_cons_zero, vOf_true, vOf_false, List.drop_succ_cons, List.drop_zero, List.take_succ_cons, List.take_zero, putD, Int.toNat_zero, Int.reduceToNat, Nat.mul_one, Nat.zero_add, Nat.add_zero, Nat.reduceMul, Nat.reduceAdd, Nat.zero_mul, Int.reduceSub, Int.reduceAdd, Int.reduceMul, Int.reduceNeg, Bool.not_true, Bool.not_false]) <;> (try simp only [List.set_cons_succ, List.set_cons_zero, List.drop_succ_cons, List.drop_zero, List.take_succ_cons, List.take_zero, List.nil_append, List.cons_append, List.append_nil, Value.cells, List.eraseIdx_cons_zero, List.eraseIdx_cons_succ, Nat.zero_add, Nat.add_zero, List.flatten_cons, List.flatten_nil, List.map_cons, List.map_nil] at hst)))
      go_end0
      exact ⟨⟨_, rfl⟩, S2, M2, hS2, .inl ⟨hJ2, hst⟩⟩
end Go.Proofs.YtgihhhdeoaplhaaDoor

/- Package evidence: the check, plain: what one disclosed point adds. -/
namespace Go.Proofs.YtgihhhdeoaplhaaDoor
set_option linter.unusedSimpArgs false
set_option linter.unusedVariables false
open Go.RowKit Go.Sl

def prP (p : Pn) : Int × Int := (p.1, p.2.1)
def bfK (ps : List Pn) (k : Nat) : List (Int × Int) := ((ps.take k).map prP).reverse
theorem kyN_mem {ps : List Pn} {k : Nat} {p : Pn} : kyN p ∈ (ps.map kyN).take k ↔ (p.1, p.2.1) ∈ bfK ps k := by
  unfold bfK
  rw [List.mem_reverse, ← List.map_take]
  constructor
  · intro h
    obtain ⟨q, hq, he⟩ := List.mem_map.1 h
    refine List.mem_map.2 ⟨q, hq, ?_⟩
    simp only [kyN, Prod.mk.injEq] at he
    simp [prP, he.1, he.2]
  · intro h
    obtain ⟨q, hq, he⟩ := List.mem_map.1 h
    refine List.mem_map.2 ⟨q, hq, ?_⟩
    simp only [prP, Prod.mk.injEq] at he
    simp [kyN, he.1, he.2]
theorem bfK_succ {ps : List Pn} {k : Nat} (hk : k < ps.length) : bfK ps (k + 1) = (ps[k].1, ps[k].2.1) :: bfK ps k := by
  unfold bfK
  rw [List.take_succ_eq_append_getElem hk, List.map_append, List.reverse_append]
  rfl
theorem ck_drop {hs : List Hd} {ps : List Pn} {k : Nat} (hk : k < ps.length) : ckF hs (bfK ps k) (ps.drop k) = if (ps[k].1, ps[k].2.1) ∈ bfK ps k ∨ ps[k].1 < 0 ∨ hs.length ≤ ps[k].1 ∨ ps[k].2.2.1 < 0 ∨ 3 < ps[k].2.2.1 then 1 else
    match hs[ps[k].1.toNat]? with
    | none => 1
    | some h => if ps[k].2.1 < 0 ∨ h.2.2.1 ≤ ps[k].2.1 then 1 else
      if verifyM h.2.2.2.1 h.2.2.1.toNat ps[k].2.1.toNat (leafP ps[k].2.1 ps[k].2.2.1) ps[k].2.2.2.1 then ckF hs (bfK ps (k + 1)) (ps.drop (k + 1)) else 16 := by
  rw [List.drop_eq_getElem_cons hk, ckF, bfK_succ hk]
  all_goals rfl
theorem ck_bad {hs : List Hd} {ps : List Pn} {k : Nat} (hk : k < ps.length) (h : (ps[k].1, ps[k].2.1) ∈ bfK ps k ∨ ps[k].1 < 0 ∨ hs.length ≤ ps[k].1 ∨ ps[k].2.2.1 < 0 ∨ 3 < ps[k].2.2.1) : ckF hs (bfK ps k) (ps.drop k) = 1 := by
  rw [ck_drop hk, if_pos h]
theorem ck_ix {hs : List Hd} {ps : List Pn} {k : Nat} (hk : k < ps.length) {h : Hd} (hh : hs[ps[k].1.toNat]? = some h) (hi : ps[k].2.1 < 0 ∨ h.2.2.1 ≤ ps[k].2.1) : ckF hs (bfK ps k) (ps.drop k) = 1 := by
  rw [ck_drop hk, hh]
  split
  · rfl
  · simp only [if_pos hi]
theorem ck_om {hs : List Hd} {ps : List Pn} {k : Nat} (hk : k < ps.length) {h : Hd} (hh : hs[ps[k].1.toNat]? = some h) (hn : (ps[k].1, ps[k].2.1) ∉ bfK ps k) (h1 : 0 ≤ ps[k].1) (h2 : ps[k].1 < hs.length) (h3 : 0 ≤ ps[k].2.2.1) (h4 : ps[k].2.2.1 ≤ 3) (hi : 0 ≤ ps[k].2.1) (hi2 : ps[k].2.1 < h.2.2.1) {b : Bool}
    (hb : verifyM h.2.2.2.1 h.2.2.1.toNat ps[k].2.1.toNat (leafP ps[k].2.1 ps[k].2.2.1) ps[k].2.2.2.1 = b) : ckF hs (bfK ps k) (ps.drop k) = if b then ckF hs (bfK ps (k + 1)) (ps.drop (k + 1)) else 16 := by
  rw [ck_drop hk, hh, if_neg (by rintro (h | h); exact hn h; omega)]
  simp only [if_neg (show ¬ (ps[k].2.1 < 0 ∨ h.2.2.1 ≤ ps[k].2.1) by omega), hb]

/-- Verify at numbers that are not negative. -/
theorem verifyI_c {S M} (w : World) (hst : St S M w) (hG : Glob S) (root leaf : Dg) (hr : root.l.length = 16) (hf : leaf.l.length = 16) (n i : Int) (h0 : 0 ≤ n) (hn : n ≤ 1000) (hi0 : 0 ≤ i) (hi : i ≤ 9223372036854775807) (vp : Value) (proof : List Dg) (hp : RSl S vp proof) (hpm : proof.length ≤ 1048576) :
    Rets Tryd.prog 35 [dgV root, .int .i64 n, .int .i64 i, dgV leaf, vp] w fun v w' => v = .bool (verifyM root n.toNat i.toNat leaf proof) ∧ St S M w' := by
  obtain ⟨n, rfl⟩ := Int.eq_ofNat_of_zero_le h0
  obtain ⟨i, rfl⟩ := Int.eq_ofNat_of_zero_le hi0
  exact verify_c w hst hG root leaf hr hf n i (by omega) (by omega) vp proof hp hpm
end Go.Proofs.YtgihhhdeoaplhaaDoor

/- Package evidence: Check, walked. -/
--@u32
--@hgp
--@flat
--@dg
--@ex0
namespace Go.Proofs.YtgihhhdeoaplhaaDoor
set_option linter.unusedSimpArgs false
set_option linter.unusedVariables false
open Go.RowKit Go.Sl

instance decDg0 : DecidableEq Pn := @instDecidableEqProd _ _ inferInstance (@instDecidableEqProd _ _ inferInstance (@instDecidableEqProd _ _ inferInstance inferInstance))
/-- What the heads and points of evidence are asked. -/
structure EvOk (ev : Evd) : Prop where
  hd : ∀ h ∈ ev.2.1, HdOk h ∧ h.2.2.1 ≤ 1000
  pt : ∀ p ∈ ev.2.2.1, I64 p.1 ∧ I64 p.2.1 ∧ I64 p.2.2.1 ∧ p.2.2.2.1.length ≤ 1048576
  nh : ev.2.1.length ≤ 1048576
  np : ev.2.2.1.length ≤ 1048576

set_option maxRecDepth 8000 in
set_option maxHeartbeats 4000000 in
theorem check_c {S M} (w : World) (hst : St S M w) (hG : Glob S) (cs : List Value) (ev : Evd) (hR : Rep.R S cs ev) (ok : EvOk ev) :
    Rets Tryd.prog 15 [.agg cs.toArray] w fun v w' => v = .int .i64 ((ckF ev.2.1 [] ev.2.2.1 : Nat) : Int) ∧ St S M w' := by
  unfold Rets
  refine rets_marks Tryd.func15 rfl ?_
  simp only [Tryd.ntmps15, List.size_toArray, List.length_cons, List.length_nil, Nat.reduceAdd, Nat.reduceSub, Array.replicate_succ, Array.replicate_zero, List.push_toArray, List.append_toArray, List.nil_append, List.cons_append]
  repeat' ((fail_if_success (with_reducible show Code.wp _ (Code.region 1 _ _) _ _ _)); first | ((fail_if_success (go_big_may)); (go_step)) | ((((first | (refine s_box hst evX rfl ?_; clear hst; intro bx w hst) | (refine s_alloc hst inX ?_; clear hst; intro bk w hst)))) <;> (try refine nY ?_) <;> (try replace hst := nH hst)))
  rename Nat => b2
  have hst0 := hst.perm (List.Perm.swap _ _ _)
  clear hst
  obtain ⟨S1, hS1, hst, hpe⟩ := pt_box (α := Evd) hst0 hR (Rep.len hR)
  clear hst0
  generalize Value.pointer (some ⟨bx, 0, none⟩) = pE at *
  replace hG := hG.mono hS1
  repeat' ((fail_if_success (with_reducible show Code.wp _ (Code.region 3 _ _) _ _ _)); first | ((fail_if_success (go_big_may)); (go_step)) | (with_reducible refine Sl.gate rfl ?_; (go_step)) | ((((first | (with_reducible refine Sl.k_store ?_; (refine s_store hst rfl _ BoxIn.h inX evX rfl lenOk oneOk (by simp) ?_); clear hst; intro w hst) | (refine s_alloc hst inX ?_; clear hst; intro bk w hst)))) <;> (try refine nY ?_) <;> (try replace hst := nH hst)))
  rename Nat => bi
  repeat' (first | (((with_reducible refine Sl.k_call ?_; ((refine s_call (distinct_c _ hst (.func (.func 34) #[] #[.pointer (some ⟨bi, 0, none⟩), pE]) rfl) inX rfl ?_; clear hst; rintro v w ⟨b4, rfl, hst⟩)))) <;> (try refine nY ?_) <;> (try replace hst := nH hst)) | ((fail_if_success (go_big_may)); (go_step)))
  have hks : ∀ k ∈ ev.2.2.1.map kyN, KyOk k := fun k hk => by
    obtain ⟨p, hp, rfl⟩ := List.mem_map.1 hk
    obtain ⟨h1, h2, _⟩ := ok.pt p hp
    exact ⟨h1, h2⟩
  have hlen : (ev.2.2.1.map kyN).length = ev.2.2.1.length := List.length_map _
  have hit := distinct1_c (b := b4) (S := S1) (gf := 34) (lb := [.pointer (some ⟨bi, 0, none⟩), pE]) inferInstance hks (A := fun k => [.box bi [.int .i64 (k : Nat)] 3]) (by rw [hlen]; exact check1_c ev ok.np _ hpe bi)
  refine s_rangeX2 (A := fun k => .box b4 [.func (.func 34) #[] [.pointer (some ⟨bi, 0, none⟩), pE].toArray] 90 :: [.box bi [.int .i64 (k : Nat)] 3])
    (fun k T N => N = .box b2 [.int .i64 0] 32 :: M ∧ Hid (ckF ev.2.1 [] ev.2.2.1 = ckF ev.2.1 (bfK ev.2.2.1 k) (ev.2.2.1.drop k)))
    (fun T N => N = .box b2 [.int .i64 ((ckF ev.2.1 [] ev.2.2.1 : Nat) : Int)] 32 :: M)
    hst ⟨rfl, Lib.hid rfl⟩ rfl inX hit inX ?_ (by simp) (by simp) (by simp) (by decide) (by decide) (by decide) ?_ ?_ ?_
  · rintro k vs ⟨x, hx, rfl⟩
    exact ⟨kyC x, _, rfl, rfl, rfl⟩
  · clear hst
    rintro r k b cs v S2 M2 C w hk ⟨x, hx, hvs⟩ hS2 ⟨rfl, hck⟩ hst
    have hkl : k < ev.2.2.1.length := by rw [hlen] at hk; exact hk
    obtain rfl : x = kyN ev.2.2.1[k] := by rw [kyN_get hkl] at hx; exact (Option.some.inj hx).symm
    obtain ⟨rfl, rfl⟩ : cs = kyC (kyN ev.2.2.1[k]) ∧ v = .bool (!decide (kyN ev.2.2.1[k] ∈ (ev.2.2.1.map kyN).take k)) := by
      have h2 := (List.cons.inj (List.cons.inj hvs).2).1
      have := (List.cons.inj hvs).1
      exact ⟨by simpa using this, h2⟩
    obtain ⟨hp1, hp2, hp3, hp4⟩ := ok.pt _ (List.getElem_mem hkl)
    have hpe := hpe.mono hS2
    have hG := hG.mono hS2
    simp only [List.cons_append, List.nil_append, kyC, kyN] at hst
    simp only [List.set_cons_succ, List.set_cons_zero]
    cases hfr : (!decide (kyN ev.2.2.1[k] ∈ (ev.2.2.1.map kyN).take k)) with
    | false =>
      repeat' ((fail_if_success (with_reducible show Code.wpIn _ _ _ (Code.region 7 _ _) _ _ _)); first | (with_reducible refine wl_nil ?_) | (with_reducible refine xt_n ?_) | (with_reducible refine wpIn_seq ?_) | (with_reducible refine wpIn_block ?_) | (with_reducible refine rg_in ?_) | ((first | (with_reducible refine Sl.k_load ?_; (first | refine s_qt hst (by exact qt_load rfl _ BoxIn.h inX rfl rfl) ?_ | (refine s_ex hst (qt_ldp_list evX asX inX) ?_; rintro v ⟨hvl, hv1⟩) | (refine s_ex hst (qt_ldp evX asX inX) ?_; rintro v ⟨cl, rfl, hcl⟩))) | (with_reducible refine Sl.k_field ?_; (((refine s_ex hst (qt_fieldp evX asX inX inX rfl) ?_); rintro v hp; (try simp only [Int.toNat_natCast, Int.toNat_natCast_add_one, Int.reduceToNat] at hp)))) | (with_reducible refine Sl.k_index ?_; (((refine s_ex hst (qt_index evX asX rfl inX inX omX omX) ?_); rintro v hp; (try simp only [Int.toNat_natCast, Int.toNat_natCast_add_one, Int.reduceToNat] at hp))))) <;> (try refine nY ?_)) | ((((first | (with_reducible refine Sl.k_store ?_; (refine s_stR hst rfl BoxIn.h evX asX inX rfl rfl ?_); clear hst; intro w hst) | (refine s_alloc hst inX ?_; clear hst; intro bk w hst)))) <;> (try refine nY ?_) <;> (try replace hst := nH hst)))
      have hst0 := hst
      clear hst
      obtain ⟨S3, hS3, hst, hpp⟩ := pt_box (α := Pn) hst0 hcl (Rep.len hcl)
      clear hst0
      generalize Value.pointer (some ⟨bk, 0, none⟩) = pP at *
      repeat' (first | (with_reducible refine wl_nil ?_) | (with_reducible refine xt_n ?_) | (with_reducible refine xt_r ?_) | (with_reducible refine xb_r ?_) | (with_reducible refine wpIn_seq ?_) | (with_reducible refine wpIn_ret ?_) | (with_reducible refine rg_in ?_) | (with_reducible (refine ci_true evX ?_)) | go_skip | ((fail_if_success (go_big_may)); (go_step)) | (with_reducible refine Sl.gate rfl ?_; (go_step)) | (((((with_reducible refine Sl.k_store ?_; (refine s_store hst rfl _ BoxIn.h inX evX rfl lenOk oneOk (by simp) ?_); clear hst; intro w hst)))) <;> (try refine nY ?_) <;> (try replace hst := nH hst)))
      refine .inr ⟨rfl, S3, .box b2 [.int .i64 ((ckF ev.2.1 [] ev.2.2.1 : Nat) : Int)] 32 :: M, hS3, rfl, ?_⟩
      rw [hck.out, ck_bad hkl (.inl (kyN_mem.1 (by simpa using hfr)))]
      exact hst.drop
    | true =>
      repeat' ((fail_if_success (with_reducible show Code.wpIn _ _ _ (Code.region 7 _ _) _ _ _)); first | (with_reducible refine wl_nil ?_) | (with_reducible refine xt_n ?_) | (with_reducible refine wpIn_seq ?_) | (with_reducible refine wpIn_block ?_) | (with_reducible refine rg_in ?_) | ((first | (with_reducible refine Sl.k_load ?_; (first | refine s_qt hst (by exact qt_load rfl _ BoxIn.h inX rfl rfl) ?_ | (refine s_ex hst (qt_ldp_list evX asX inX) ?_; rintro v ⟨hvl, hv1⟩) | (refine s_ex hst (qt_ldp evX asX inX) ?_; rintro v ⟨cl, rfl, hcl⟩))) | (with_reducible refine Sl.k_field ?_; (((refine s_ex hst (qt_fieldp evX asX inX inX rfl) ?_); rintro v hp; (try simp only [Int.toNat_natCast, Int.toNat_natCast_add_one, Int.reduceToNat] at hp)))) | (with_reducible refine Sl.k_index ?_; (((refine s_ex hst (qt_index evX asX rfl inX inX omX omX) ?_); rintro v hp; (try simp only [Int.toNat_natCast, Int.toNat_natCast_add_one, Int.reduceToNat] at hp))))) <;> (try refine nY ?_)) | ((((first | (with_reducible refine Sl.k_store ?_; (refine s_stR hst rfl BoxIn.h evX asX inX rfl rfl ?_); clear hst; intro w hst) | (refine s_alloc hst inX ?_; clear hst; intro bk w hst)))) <;> (try refine nY ?_) <;> (try replace hst := nH hst)))
      have hst0 := hst
      clear hst
      obtain ⟨S3, hS3, hst, hpp⟩ := pt_box (α := Pn) hst0 hcl (Rep.len hcl)
      clear hst0
      generalize Value.pointer (some ⟨bk, 0, none⟩) = pP at *
      have hpe := hpe.mono hS3
      have hnew : (ev.2.2.1[k].1, ev.2.2.1[k].2.1) ∉ bfK ev.2.2.1 k := fun h => by
        have := kyN_mem.2 h
        simp [this] at hfr
      repeat' ((fail_if_success (with_reducible show Code.wpIn _ _ _ (Code.region 9 _ _) _ _ _)); first | (with_reducible refine wl_nil ?_) | (with_reducible refine xt_n ?_) | (with_reducible refine xt_r ?_) | (with_reducible refine xb_r ?_) | (with_reducible refine wpIn_seq ?_) | (with_reducible refine wpIn_ret ?_) | (with_reducible refine wpIn_skip ?_) | (with_reducible refine rg_in ?_) | (with_reducible (refine ci_true evX ?_)) | (with_reducible refine ci_split evX ?_ ?_ <;> intro hg <;> ((try simp only [decide_eq_true_eq, decide_eq_false_iff_not, Bool.not_false, Bool.not_true, beq_iff_eq, beq_eq_false_iff_ne, ne_eq, Bool.not_eq_true', Bool.not_eq_false', bne_iff_ne, bne_eq_false_iff_eq] at hg))) | go_skip | (((with_reducible refine Sl.k_guard ?_; (first | (refine Sl.guard_yes rfl ?_) | (refine Sl.guard_cases rfl ?_ ?_ <;> intro hg <;> (simp only [hg, Bool.not_true, Bool.not_false])) <;> (try simp only [decide_eq_true_eq, decide_eq_false_iff_not, Bool.not_false, Bool.not_true, beq_iff_eq, beq_eq_false_iff_ne, bne_iff_ne, bne_eq_false_iff_eq, ne_eq] at hg)))) <;> (try refine nY ?_)) | ((fail_if_success (go_big_may)); (go_step)) | ((first | (with_reducible refine Sl.k_load ?_; (first | refine s_qt hst (by exact qt_load rfl _ BoxIn.h inX rfl rfl) ?_ | (refine s_ex hst (qt_ldp_int evX asX inX) ?_; rintro v ⟨rfl, hI⟩) | (refine s_ex hst (qt_ldp_list evX asX inX) ?_; rintro v ⟨hvl, hv1⟩))) | (with_reducible refine Sl.k_field ?_; (first | refine s_qt hst (qt_field rfl inX) ?_ | ((refine s_ex hst (qt_fieldp evX asX inX inX rfl) ?_); rintro v hp; (try simp only [Int.toNat_natCast, Int.toNat_natCast_add_one, Int.reduceToNat] at hp)))) | (with_reducible refine Sl.k_call ?_; (refine s_qt hst (by exact qt_len evX asX inX) ?_))) <;> (try refine nY ?_)) | (with_reducible refine Sl.gate rfl ?_; (go_step)) | (((((with_reducible refine Sl.k_store ?_; (refine s_store hst rfl _ BoxIn.h inX evX rfl lenOk oneOk (by simp) ?_); clear hst; intro w hst)))) <;> (try refine nY ?_) <;> (try replace hst := nH hst)))
      all_goals first
        | (refine .inr ⟨rfl, S3, .box b2 [.int .i64 ((ckF ev.2.1 [] ev.2.2.1 : Nat) : Int)] 32 :: M, hS3, rfl, ?_⟩
           rw [hck.out, ck_bad hkl (.inr (by omega))]
           exact hst.drop)
        | skip
      have hjl : ev.2.2.1[k].1.toNat < ev.2.1.length := by omega
      have hhd := List.getElem?_eq_getElem hjl
      obtain ⟨hok, hcnt⟩ := ok.hd _ (List.getElem_mem hjl)
      repeat' ((fail_if_success (with_reducible show Code.wpIn _ _ _ (Code.region 10 _ _) _ _ _)); first | (with_reducible refine rg_in ?_) | ((first | (with_reducible refine Sl.k_load ?_; (first | refine s_qt hst (by first | exact qt_ldp_flat evX asX inX inX rfl | exact qt_load rfl _ BoxIn.h inX rfl rfl) ?_ | (refine s_ex hst (qt_ldp_list evX asX inX) ?_; rintro v ⟨hvl, hv1⟩))) | (with_reducible refine Sl.k_field ?_; (first | refine s_qt hst (qt_field rfl inX) ?_ | ((refine s_ex hst (qt_fieldp evX asX inX inX rfl) ?_); rintro v hp; (try simp only [Int.toNat_natCast, Int.toNat_natCast_add_one, Int.reduceToNat] at hp)))) | (with_reducible refine Sl.k_index ?_; (((refine s_ex hst (qt_index evX asX rfl inX inX omX omX) ?_); rintro v hp; (try simp only [Int.toNat_natCast, Int.toNat_natCast_add_one, Int.reduceToNat] at hp))))) <;> (try refine nY ?_)) | (((((refine s_alloc hst inX ?_; clear hst; intro bk w hst)))) <;> (try refine nY ?_) <;> (try replace hst := nH hst)))
      refine s_stW0 hst rfl BoxIn.h inX (x0 := ev.2.1[ev.2.2.1[k].1.toNat]) (cs := hdC ev.2.1[ev.2.2.1[k].1.toNat]) evX (r_hd hok) rfl ?_
      clear hst; intro w hst
      (try refine nY ?_)
      (try replace hst := nH hst)
      have hst0 := hst
      clear hst
      obtain ⟨S4, hS4, hst, hph⟩ := pt_box (α := Hd) hst0 (r_hd hok) (Rep.len (S := S3) (r_hd hok))
      clear hst0
      generalize ev.2.1[ev.2.2.1[k].1.toNat] = H at *
      generalize Value.pointer (some ⟨bk, 0, none⟩) = pH at *
      have hpp := hpp.mono hS4
      have hG := hG.mono (hS3.trans hS4)
      repeat' ((fail_if_success (with_reducible show Code.wpIn _ _ _ (Code.region 12 _ _) _ _ _)); first | (with_reducible refine wl_nil ?_) | (with_reducible refine xt_n ?_) | (with_reducible refine xt_r ?_) | (with_reducible refine xb_r ?_) | (with_reducible refine wpIn_seq ?_) | (with_reducible refine wpIn_ret ?_) | (with_reducible refine wpIn_skip ?_) | (with_reducible refine rg_in ?_) | (with_reducible (refine ci_true evX ?_)) | (with_reducible refine ci_split evX ?_ ?_ <;> intro hg <;> ((try simp only [decide_eq_true_eq, decide_eq_false_iff_not, Bool.not_false, Bool.not_true, beq_iff_eq, beq_eq_false_iff_ne, ne_eq, Bool.not_eq_true', Bool.not_eq_false', bne_iff_ne, bne_eq_false_iff_eq] at hg))) | go_skip | (((with_reducible refine Sl.k_guard ?_; (first | (refine Sl.guard_yes rfl ?_) | (refine Sl.guard_cases rfl ?_ ?_ <;> intro hg <;> (simp only [hg, Bool.not_true, Bool.not_false])) <;> (try simp only [decide_eq_true_eq, decide_eq_false_iff_not, Bool.not_false, Bool.not_true, beq_iff_eq, beq_eq_false_iff_ne, bne_iff_ne, bne_eq_false_iff_eq, ne_eq] at hg)))) <;> (try refine nY ?_)) | ((fail_if_success (go_big_may)); (go_step)) | ((first | (with_reducible refine Sl.k_load ?_; (first | refine s_qt hst (by exact qt_load rfl _ BoxIn.h inX rfl rfl) ?_ | (refine s_ex hst (qt_ldp_int evX asX inX) ?_; rintro v ⟨rfl, hI⟩))) | (with_reducible refine Sl.k_field ?_; (first | refine s_qt hst (qt_field rfl inX) ?_ | ((refine s_ex hst (qt_fieldp evX asX inX inX rfl) ?_); rintro v hp; (try simp only [Int.toNat_natCast, Int.toNat_natCast_add_one, Int.reduceToNat] at hp))))) <;> (try refine nY ?_)) | (with_reducible refine Sl.gate rfl ?_; (go_step)) | (((((with_reducible refine Sl.k_store ?_; (refine s_store hst rfl _ BoxIn.h inX evX rfl lenOk oneOk (by simp) ?_); clear hst; intro w hst)))) <;> (try refine nY ?_) <;> (try replace hst := nH hst)))
      all_goals first
        | (refine .inr ⟨rfl, S4, .box b2 [.int .i64 ((ckF ev.2.1 [] ev.2.2.1 : Nat) : Int)] 32 :: M, hS3.trans hS4, rfl, ?_⟩
           rw [hck.out, ck_ix hkl hhd (by omega)]
           exact hst.drop)
        | skip
      have hpf : ∀ {M : List Chunk} (w : World) (hst : St S4 M w) (u : Value) (hu : RSl S4 u ev.2.2.1[k].2.2.2.1), Rets Tryd.prog 35 [dgV H.2.2.2.1, .int .i64 H.2.2.1, .int .i64 ev.2.2.1[k].2.1, dgV (leafP ev.2.2.1[k].2.1 ev.2.2.1[k].2.2.1), u] w fun v w' => v = .bool (verifyM H.2.2.2.1 H.2.2.1.toNat ev.2.2.1[k].2.1.toNat (leafP ev.2.2.1[k].2.1 ev.2.2.1[k].2.2.1) ev.2.2.1[k].2.2.2.1) ∧ St S4 M w' :=
        fun w hst u hu => verifyI_c w hst hG _ _ hok.d (leafP_len _ _) _ _ (by omega) hcnt (by omega) hp2.2 u _ hu hp4
      have hom := fun {b : Bool} => ck_om (b := b) hkl hhd hnew (by omega) (by omega) (by omega) (by omega) (by omega) (by omega)
      generalize verifyM H.2.2.2.1 H.2.2.1.toNat ev.2.2.1[k].2.1.toNat (leafP ev.2.2.1[k].2.1 ev.2.2.1[k].2.2.1) ev.2.2.1[k].2.2.2.1 = vb at *
      have hom := hom rfl
      refine region_tailIn (.inr ⟨_, rfl⟩) 13 hst (by kernel_rfl) rfl (by kernel_rfl) ?_
      simp only [List.take_succ_cons, List.take_zero, List.drop_succ_cons, List.drop_zero]
      repeat (((first | (with_reducible refine Sl.kq_load ?_; (first | refine q_qt (by first | exact qt_ldp_flat evX asX inX inX rfl | exact qt_load rfl _ BoxIn.h inX rfl rfl) ?_ | (refine q_ex (qt_ldp_int evX asX inX) ?_; rintro v ⟨rfl, hI⟩) | (refine q_ex (qt_ldp_list evX asX inX) ?_; rintro v ⟨hvl, hv1⟩))) | (with_reducible refine Sl.kq_field ?_; (first | refine q_qt (qt_field rfl inX) ?_ | ((refine q_ex (qt_fieldp evX asX inX inX rfl) ?_); rintro v hp; (try simp only [Int.toNat_natCast, Int.toNat_natCast_add_one, Int.reduceToNat] at hp)))) | (with_reducible refine Sl.kq_call ?_; ((refine q_call (fun w hst => pleaf_c _ hst hG _ _ hp2 hp3) inX rfl ?_)))) <;> (try refine nY ?_)))
      refine q_nil ?_; clear hst; intro w hst
      refine in_plain (.inr ⟨_, rfl⟩) loX rfl ?_
      refine s_call (hpf _ hst _ asX) inX rfl ?_; clear hst; rintro v w ⟨rfl, hst⟩
      (try refine nY ?_)
      cases vb with
      | false =>
        repeat' (first | (with_reducible refine wl_nil ?_) | (with_reducible refine xt_n ?_) | (with_reducible refine xb_r ?_) | (with_reducible refine wpIn_seq ?_) | (with_reducible refine wpIn_ret ?_) | (with_reducible refine rg_in ?_) | (with_reducible (refine ci_true evX ?_)) | ((fail_if_success (go_big_may)); (go_step)) | (with_reducible refine Sl.gate rfl ?_; (go_step)) | (((((with_reducible refine Sl.k_store ?_; (refine s_store hst rfl _ BoxIn.h inX evX rfl lenOk oneOk (by simp) ?_); clear hst; intro w hst)))) <;> (try refine nY ?_) <;> (try replace hst := nH hst)))
        refine .inr ⟨rfl, S4, .box b2 [.int .i64 ((ckF ev.2.1 [] ev.2.2.1 : Nat) : Int)] 32 :: M, hS3.trans hS4, rfl, ?_⟩
        rw [hck.out, hom]
        exact hst.drop
      | true =>
        repeat' (first | (with_reducible refine wl_nil ?_) | (with_reducible refine xt_n ?_) | (with_reducible refine xb_n ?_) | (with_reducible refine wpIn_skip ?_) | (with_reducible (refine ci_false evX ?_)) | ((fail_if_success (go_big_may)); (go_step)) | (with_reducible refine Sl.gate rfl ?_; (go_step)))
        refine .inl ⟨rfl, ⟨_, kyN_get hkl, fun h => hnew (kyN_mem.1 h)⟩, S4, .box b2 [.int .i64 0] 32 :: M, hS3.trans hS4, ⟨rfl, Lib.hid (hck.out.trans hom)⟩, ?_⟩
        exact hst.drop
  · clear hst
    rintro d S2 M2 w hS2 ⟨rfl, hck⟩ hst
    have hck := hck.out
    rw [hlen, List.drop_length] at hck
    simp only [List.cons_append, List.nil_append] at hst
    repeat' (first | ((fail_if_success (go_big_may)); (go_step)) | (((((with_reducible refine Sl.k_store ?_; (refine s_store hst rfl _ BoxIn.h inX evX rfl lenOk oneOk (by simp) ?_); clear hst; intro w hst)))) <;> (try refine nY ?_) <;> (try replace hst := nH hst)))
    refine ret_mark1 hst rfl (fun w' hst' => rv_cell hst' rfl _ BoxIn.h inX rfl rfl) fun w' hst' => ⟨_, rfl, ?_, St.weaken (hS1.trans hS2) hst'.drop.drop.drop⟩
    rw [hck]
    rfl
  · clear hst
    rintro d k S2 M2 w hk hS2 rfl hst
    simp only [List.cons_append, List.nil_append] at hst
    repeat' (((fail_if_success (go_big_may)); (go_step)))
    exact ret_mark1 hst rfl (fun w' hst' => rv_cell hst' rfl _ BoxIn.h inX rfl rfl) fun w' hst' => ⟨_, rfl, rfl, St.weaken (hS1.trans hS2) hst'.drop.drop.drop⟩
end Go.Proofs.YtgihhhdeoaplhaaDoor

/- Package evidence: leaves, Registers, walked. -/
--@u32
--@hgp
--@flat
--@dg
--@ex0
namespace Go.Proofs.YtgihhhdeoaplhaaDoor
set_option linter.unusedSimpArgs false
set_option linter.unusedVariables false
open Go.RowKit Go.Sl

set_option maxRecDepth 8000 in
set_option maxHeartbeats 1000000 in
theorem leaves_c {S M} (w : World) (hst : St S M w) (hG : Glob S) (cs : List Value) (ev : Ev) (hR : Rep.R S cs ev) (hm : ev.2.2.1.length ≤ 1000) :
    Rets Tryd.prog 30 [.agg cs.toArray] w fun u w' => St S (.sl u 23 16 (lvM ev).length (cF dgC (lvM ev)) :: M) w' := by
  unfold Rets
  go_enter Tryd.func30, Tryd.ntmps30
  repeat' ((fail_if_success (with_reducible show Code.wp _ (Code.region 1 _ _) _ _ _)); first | ((fail_if_success (go_big_may)); (go_step)) | (((((refine s_box hst evX rfl ?_; clear hst; intro bx w hst)))) <;> (try refine nY ?_) <;> (try replace hst := nH hst)))
  have hst0 := hst
  clear hst
  obtain ⟨S1, hS1, hst, hpe⟩ := pt_box (α := Ev) hst0 hR (Rep.len hR)
  clear hst0
  generalize Value.pointer (some ⟨bx, 0, none⟩) = pE at *
  replace hG := hG.mono hS1
  repeat' (first | ((fail_if_success (go_big_may)); (go_step)) | ((first | (with_reducible refine Sl.k_load ?_; ((refine s_ex hst (qt_ldp_list evX asX inX) ?_; rintro v ⟨hvl, hv1⟩))) | (with_reducible refine Sl.k_field ?_; (((refine s_ex hst (qt_fieldp evX asX inX inX rfl) ?_); rintro v hp; (try simp only [Int.toNat_natCast, Int.toNat_natCast_add_one, Int.reduceToNat] at hp)))) | (with_reducible refine Sl.k_call ?_; (refine s_qt hst (by exact qt_len evX asX inX) ?_))) <;> (try refine nY ?_)))
  have hst := hst.nil 23 16
  go_loopw [3, 9] (fun u v wr => ∃ (n : Nat) (c : List Dg), n ≤ ev.2.2.1.length ∧ v = .int .i64 n ∧ Hid (c = (List.range n).map fun (j : Nat) => leafP (j : Int) (ev.2.2.1.getD j 0)) ∧ (n ≤ c.length ∧ c.length ≤ n) ∧ u.oneCell' = true ∧ St S1 (.sl u 23 16 c.length (cF dgC c) :: M) wr) (fun _ v _ => ev.2.2.1.length - (intOf v).toNat)
  case atStart => exact ⟨0, [], Nat.zero_le _, rfl, Lib.hid rfl, ⟨Nat.le_refl _, Nat.le_refl _⟩, rfl, hst⟩
  case round =>
    clear hst
    obtain ⟨n, c, hn, rfl, hc, hcl2, hone, hst⟩ := hrel
    by_cases hlt : n < ev.2.2.1.length
    · have hi64 := rsl_i64 hvl ev.2.2.1[n] (List.getElem_mem hlt)
      have hn64 : I64 (n : Int) := by unfold I64; omega
      have hsu := Lib.hid (leaves_succ leafP hlt)
      repeat' (first | (((with_reducible refine Sl.k_call ?_; ((refine s_call (pleaf_c _ hst hG (n : Int) ev.2.2.1[n] hn64 hi64) inX rfl ?_; clear hst; rintro v w ⟨rfl, hst⟩)))) <;> (try refine nY ?_) <;> (try replace hst := nH hst)) | ((fail_if_success (go_big_may)); (go_step)) | ((first | (with_reducible refine Sl.k_load ?_; ((refine s_ex hst (qt_ldp_int evX asX inX) ?_; rintro v ⟨rfl, hI⟩))) | (with_reducible refine Sl.k_index ?_; (((refine s_ex hst (qt_index evX asX rfl inX inX omX omX) ?_); rintro v hp; (try simp only [Int.toNat_natCast, Int.toNat_natCast_add_one, Int.reduceToNat] at hp))))) <;> (try refine nY ?_)) | (with_reducible refine Sl.gate rfl ?_; (go_step)))
      refine s_lit (vs := [dgV (leafP (n : Int) ev.2.2.1[n])]) hst inX inX rfl rfl (by simp [Value.cells, u8s_length, leafP_len]) rfl (by omega) (by omega) ?_
      clear hst; intro u w hst
      (try refine nY ?_)
      (try replace hst := nH hst)
      repeat' (fail)
      refine s_append (j := 0) hst evX evX SlIn.h rfl inX inX inX (by simpa [Value.cells] using u8s_one (leafP (n : Int) ev.2.2.1[n]).l) (by omega) (by omega) (by decide) ?_
      clear hst; intro v' w hst
      (try refine nY ?_)
      (try replace hst := nH hst)
      replace hst := hst.drop
      repeat' (first | ((fail_if_success (go_big_may)); (go_step)) | (with_reducible refine Sl.gate rfl ?_; (go_step)))
      have hone' := sl_one hst
      go_roundw
      case rel => exact ⟨n + 1, c ++ [leafP (n : Int) ev.2.2.1[n]], by omega, by go_num, Lib.hid (by rw [hsu.out, hc.out]), by simp; omega, hone', by rw [List.length_append, cF_snoc]; exact hst⟩
      case measure => simp [intOf]; omega
    · obtain rfl : n = ev.2.2.1.length := by omega
      have hcE : c = lvM ev := hc.out
      repeat' (first | ((fail_if_success (go_big_may)); (go_step)) | (with_reducible refine Sl.gate rfl ?_; (go_step)))
      go_ret
      rw [← hcE]
      exact ⟨_, rfl, St.weaken hS1 hst⟩

theorem foldH_ok : ∀ (hs : List Hd) (r : Rg), RgOk r → RgOk (hs.foldl extM r)
  | [], _, h => h
  | h :: hs, r, _ => foldH_ok hs _ (extM_ok r h)
theorem regE_ok (m : Dg) (hs : List Hd) : RgOk (regE m hs) := foldH_ok hs _ (startM_ok m)
theorem regE_succ (m : Dg) (hs : List Hd) {k : Nat} (hk : k < hs.length) : regE m (hs.take (k + 1)) = extM (regE m (hs.take k)) hs[k] := by
  rw [List.take_succ_eq_append_getElem hk, regE, List.foldl_append]
  rfl

set_option maxRecDepth 8000 in
set_option maxHeartbeats 1000000 in
theorem registers_c {S M} (w : World) (hst : St S M w) (hG : Glob S) (cs : List Value) (ev : Evd) (hR : Rep.R S cs ev) (hm : ev.1.l.length = 16) (hh : ∀ h ∈ ev.2.1, HdOk h) (hn : ev.2.1.length ≤ 1048576) :
    Rets Tryd.prog 17 [.agg cs.toArray] w fun v w' => v = rgV (regE ev.1 ev.2.1) ∧ St S M w' := by
  unfold Rets
  go_enter Tryd.func17, Tryd.ntmps17
  repeat' ((fail_if_success (with_reducible show Code.wp _ (Code.region 1 _ _) _ _ _)); first | ((fail_if_success (go_big_may)); (go_step)) | ((((first | (refine s_box hst evX rfl ?_; clear hst; intro bx w hst) | (refine s_alloc hst inX ?_; clear hst; intro bk w hst)))) <;> (try refine nY ?_) <;> (try replace hst := nH hst)))
  have hst0 := hst.perm (List.Perm.swap _ _ _)
  clear hst
  obtain ⟨S1, hS1, hst, hpe⟩ := pt_box (α := Evd) hst0 hR (Rep.len hR)
  clear hst0
  generalize Value.pointer (some ⟨bx, 0, none⟩) = pE at *
  replace hG := hG.mono hS1
  haveI : LenIs ev.1.l 16 := ⟨hm⟩
  repeat' (first | (((with_reducible refine Sl.k_call ?_; ((refine s_call (start_c _ hst hG ev.1 hm) inX rfl ?_; clear hst; rintro v w ⟨rfl, hst⟩)))) <;> (try refine nY ?_) <;> (try replace hst := nH hst)) | ((fail_if_success (go_big_may)); (go_step)) | ((first | (with_reducible refine Sl.k_load ?_; (refine s_qt hst (by exact qt_ldp_flat evX asX inX inX rfl) ?_)) | (with_reducible refine Sl.k_field ?_; (((refine s_ex hst (qt_fieldp evX asX inX inX rfl) ?_); rintro v hp; (try simp only [Int.toNat_natCast, Int.toNat_natCast_add_one, Int.reduceToNat] at hp))))) <;> (try refine nY ?_)) | (((((refine s_alloc hst inX ?_; clear hst; intro bk w hst)))) <;> (try refine nY ?_) <;> (try replace hst := nH hst)))
  refine s_stW0 hst rfl BoxIn.h inX (x0 := startM ev.1) (cs := rgC (startM ev.1)) evX (r_rg (startM_ok ev.1)) rfl ?_
  clear hst; intro w hst
  (try refine nY ?_)
  (try replace hst := nH hst)
  rename Nat => b3
  repeat' (first | ((fail_if_success (go_big_may)); (go_step)) | ((first | (with_reducible refine Sl.k_load ?_; ((refine s_ex hst (qt_ldp_list evX asX inX) ?_; rintro v ⟨hvl, hv1⟩))) | (with_reducible refine Sl.k_field ?_; (((refine s_ex hst (qt_fieldp evX asX inX inX rfl) ?_); rintro v hp; (try simp only [Int.toNat_natCast, Int.toNat_natCast_add_one, Int.reduceToNat] at hp)))) | (with_reducible refine Sl.k_call ?_; (refine s_qt hst (by exact qt_len evX asX inX) ?_))) <;> (try refine nY ?_)))
  have hfs : ∀ k, RgOk (regE ev.1 (ev.2.1.take k)) := fun k => regE_ok _ _
  go_loopw [12] (fun v wr => ∃ k : Nat, k ≤ ev.2.1.length ∧ v = .int .i64 k ∧ St S1 (.box b3 (rgC (regE ev.1 (ev.2.1.take k))) 40 :: .box bk (rgC rg0) 40 :: M) wr) (fun v _ => ev.2.1.length - (intOf v).toNat)
  case atStart => exact ⟨0, Nat.zero_le _, rfl, hst⟩
  case round =>
    clear hst
    obtain ⟨k, hk, rfl, hst⟩ := hrel
    by_cases hlt : k < ev.2.1.length
    · have hho := hh _ (List.getElem_mem hlt)
      have hfk := hfs k
      have hfk1 := hfs (k + 1)
      have hsu := Lib.hid (regE_succ ev.1 ev.2.1 hlt)
      rw [hsu.out] at hfk1
      repeat' (first | ((fail_if_success (go_big_may)); (go_step)) | ((first | (with_reducible refine Sl.k_load ?_; (refine s_qt hst (by exact qt_ldp_flat evX asX inX inX rfl) ?_)) | (with_reducible refine Sl.k_index ?_; (((refine s_ex hst (qt_index evX asX rfl inX inX omX omX) ?_); rintro v hp; (try simp only [Int.toNat_natCast, Int.toNat_natCast_add_one, Int.reduceToNat] at hp))))) <;> (try refine nY ?_)) | (with_reducible refine Sl.gate rfl ?_; (go_step)) | (((((refine s_alloc hst inX ?_; clear hst; intro bk w hst)))) <;> (try refine nY ?_) <;> (try replace hst := nH hst)))
      refine s_stW0 hst rfl BoxIn.h inX (x0 := ev.2.1[k]) (cs := hdC ev.2.1[k]) evX (r_hd hho) rfl ?_
      clear hst; intro w hst
      (try refine nY ?_)
      (try replace hst := nH hst)
      generalize regE ev.1 (ev.2.1.take k) = F at *
      generalize ev.2.1[k] = E at *
      have hrF : Rep.R S1 (rgC F) F := r_rg hfk
      have hrE : Rep.R S1 (hdC E) E := r_hd hho
      repeat' (first | (((with_reducible (refine Sl.k_load ?_; with_unfolding_all refine s_qt hst (by first | exact qt_loadF (x0 := F) rfl BoxIn.h hrF inX | exact qt_loadF (x0 := E) rfl BoxIn.h hrE inX) ?_))) <;> (try refine nY ?_)) | (((with_reducible refine Sl.k_call ?_; ((refine s_call (extend_c _ hst hG F hfk E hho) inX rfl ?_; clear hst; rintro v w ⟨rfl, hst⟩)))) <;> (try refine nY ?_) <;> (try replace hst := nH hst)) | ((fail_if_success (go_big_may)); (go_step)))
      refine s_stW0 hst rfl BoxIn.h inX (x0 := extM F E) (cs := rgC (extM F E)) evX (r_rg hfk1) (Rep.len hrF) ?_
      clear hst; intro w hst
      (try refine nY ?_)
      (try replace hst := nH hst)
      repeat' (first | ((fail_if_success (go_big_may)); (go_step)) | (with_reducible refine Sl.gate rfl ?_; (go_step)))
      go_roundw
      case rel => exact ⟨k + 1, by omega, by go_num, by rw [hsu.out]; exact hst.drop⟩
      case measure => simp [intOf]; omega
    · obtain rfl : k = ev.2.1.length := by omega
      rw [List.take_length] at hst
      have hfa := regE_ok ev.1 ev.2.1
      have hrA : Rep.R S1 (rgC (regE ev.1 ev.2.1)) (regE ev.1 ev.2.1) := r_rg hfa
      repeat' (first | (((with_reducible (refine Sl.k_load ?_; with_unfolding_all refine s_qt hst (qt_loadF (x0 := regE ev.1 ev.2.1) rfl BoxIn.h hrA inX) ?_))) <;> (try refine nY ?_)) | ((fail_if_success (go_big_may)); (go_step)) | (with_reducible refine Sl.gate rfl ?_; (go_step)))
      refine s_stW0 hst rfl BoxIn.h inX (x0 := regE ev.1 ev.2.1) (cs := rgC (regE ev.1 ev.2.1)) evX hrA rfl ?_
      clear hst; intro w hst
      (try refine nY ?_)
      (try replace hst := nH hst)
      repeat' (((fail_if_success (go_big_may)); (go_step)))
      exact ret_F rfl hst rfl BoxIn.h inX hrA ⟨_, rfl, rfl, St.weaken hS1 hst.drop.drop⟩
end Go.Proofs.YtgihhhdeoaplhaaDoor

/- Package evidence: Make, walked: the heads. -/
--@u32
--@hgp
--@flat
--@dg
--@ex0
namespace Go.Proofs.YtgihhhdeoaplhaaDoor
set_option linter.unusedSimpArgs false
set_option linter.unusedVariables false
open Go.RowKit Go.Sl

theorem leaves_f {S M} (w : World) (hst : St S M w) (hG : Glob S) (cs : List Value) (ev : Ev) (hR : Rep.R S cs ev) (hm : ev.2.2.1.length ≤ 1000) :
    Rets Tryd.prog 30 [.agg cs.toArray] w fun u w' => Fz Dg S M (lvM ev) u w' :=
  (leaves_c w hst hG cs ev hR hm).mono fun u w' h => by
    have h1 := sl_one h
    obtain ⟨S2, hS2, hst, hu⟩ := St.freeze (α := Dg) h (rl_digs (leavesP_16 leafP_len _)) rfl
    exact ⟨S2, hS2, hu, h1, hst⟩
theorem prove_f {S M} (w : World) (hst : St S M w) (hG : Glob S) (vl : Value) (l : List Dg) (hl : RSl S vl l) (i : Int) (h0 : 0 ≤ i) (hi : i < l.length) (hm : l.length ≤ 1000) :
    Rets Tryd.prog 29 [vl, .int .i64 i] w fun v w' => ∃ u, v = .tuple #[u, .int .i64 0] ∧ Fz Dg S M (proofM l i.toNat) u w' := by
  obtain ⟨i, rfl⟩ := Int.eq_ofNat_of_zero_le h0
  refine (prove_c w hst hG vl l hl i (by omega) hm).mono fun v w' ⟨u, hv, h⟩ => ⟨u, hv, ?_⟩
  have h1 := sl_one h
  obtain ⟨S2, hS2, hst, hu⟩ := St.freeze (α := Dg) h (rl_digs (proofM_len _ _)) rfl
  exact ⟨S2, hS2, hu, h1, hst⟩

theorem dg16 {m : Dg} (h : m.l.length = 16) : ∃ a0 a1 a2 a3 a4 a5 a6 a7 a8 a9 b0 b1 b2 b3 b4 b5, m = ⟨[a0, a1, a2, a3, a4, a5, a6, a7, a8, a9, b0, b1, b2, b3, b4, b5]⟩ := by
  obtain ⟨l⟩ := m
  match l, h with
  | [a0, a1, a2, a3, a4, a5, a6, a7, a8, a9, b0, b1, b2, b3, b4, b5], _ => exact ⟨a0, a1, a2, a3, a4, a5, a6, a7, a8, a9, b0, b1, b2, b3, b4, b5, rfl⟩

/-- The return of a function with two results, one mark to go. -/
theorem ret_mark2 {P : Program} {S : Snap} {M : List Chunk} {w : World} {fn : Func} {R : Ending → World → Prop} {l : List Value} {d : Nat} {v1 v2 : Value} {r1 r2 : ResultVar} (hst : St S (.obj d (.deferred (some [])) :: M) w) (hr : fn.results = #[r1, r2])
    (hv1 : ∀ w', St S M w' → RVar P l w' r1 v1) (hv2 : ∀ w', St S M w' → RVar P l w' r2 v2) (hR : ∀ w', St S M w' → R (.returned (.tuple #[v1, v2])) w') : bodyPostM Fence.wide 0 P fn R .ret ⟨l.toArray, [{ target := .collected d, args := #[] }]⟩ w := by
  have hk : w.heap[d]? = some (.deferred (some [])) := hst.at_ _ (.head _)
  have hst' := (hst.putObj (o' := .deferred none)).drop
  refine ⟨by simp, .inl ⟨d, _, rfl, run_takeDeferred hk, ?_⟩⟩
  refine ⟨.tuple #[v1, v2], ?_, hR _ hst'⟩
  have hn : ∀ t, nth l t = l[t]?.getD undef := fun t => by simp [nth_eq]
  have h1 := hv1 _ hst'
  have h2 := hv2 _ hst'
  cases r1 <;> cases r2 <;> simp only [RVar, hn] at h1 h2 <;> (try obtain ⟨ad1, h1, k1⟩ := h1) <;> (try obtain ⟨ad2, h2, k2⟩ := h2) <;> simp_all [results, asAddr]

theorem rsl_formE {α : Type} [Rep α] {S : Snap} {v : Value} {xs : List α} (h : RSl S v xs) : ∃ a n c, v = .slice a n c := by
  rcases h with ⟨ad, cap, rfl, _⟩ | ⟨b, o, cap, c, T, fz, rfl, _⟩ <;> exact ⟨_, _, _, rfl⟩
theorem sl_formk {S : Snap} {M : List Chunk} {w : World} {v : Value} {T : TypeId} {k z n : Nat} {c : List Value} (h : St S M w) (hk : M[k]? = some (.sl v T z n c)) : ∃ a n' c', v = .slice a n' c' := by
  rcases (h.get hk).2 with ⟨rfl, _⟩ | ⟨g, cap, cur, fz, rfl, _⟩ <;> exact ⟨_, _, _, rfl⟩
theorem rl_hds {S : Snap} : ∀ {hs : List Hd}, (∀ h ∈ hs, HdOk h) → RL S (cF hdC hs) hs
  | [], _ => RL.nil
  | h :: hs, hh => by
    have := (RL.one_mk (r_hd (S := S) (hh h (.head _)))).append (rl_hds (S := S) (hs := hs) fun x hx => hh x (.tail _ hx))
    simpa [cF] using this
/-- The disclosed points so far. -/
def bfR (rv : List (Int × Int)) (k : Nat) : List (Int × Int) := (rv.take k).reverse
abbrev evZ : List Value := [.int .u8 0, .int .u8 0, .int .u8 0, .int .u8 0, .int .u8 0, .int .u8 0, .int .u8 0, .int .u8 0, .int .u8 0, .int .u8 0, .int .u8 0, .int .u8 0, .int .u8 0, .int .u8 0, .int .u8 0, .int .u8 0, .slice none 0 0, .slice none 0 0]
def makeP (S : Snap) (M : List Chunk) (m : Dg) (log : List Ev) (rv : List (Int × Int)) (v : Value) (w : World) : Prop :=
  ∃ S', S.Le S' ∧ St S' M w ∧ match mkF log [] rv with
    | none => v = .tuple #[.agg evZ.toArray, .int .i64 1]
    | some ps => ∃ cs, v = .tuple #[.agg cs.toArray, .int .i64 0] ∧ Rep.R S' cs ((m, log.map headM, ps, ()) : Evd)

/-- What Make answers, the points its own. -/
def makeO (S : Snap) (M : List Chunk) (m : Dg) (log : List Ev) (rv : List (Int × Int)) (v : Value) (w : World) : Prop :=
  ∃ S', S.Le S' ∧ match mkF log [] rv with
    | none => v = .tuple #[.agg evZ.toArray, .int .i64 1] ∧ St S' M w
    | some ps => ∃ uh up cp, v = .tuple #[.agg (u8s m.l ++ [uh, up]).toArray, .int .i64 0] ∧ RSl S' uh (log.map headM) ∧ RL S' cp ps ∧ St S' (.sl up 52 4 ps.length cp :: M) w
theorem makeO_P {S : Snap} {M : List Chunk} {m : Dg} (hm : m.l.length = 16) {log : List Ev} {rv : List (Int × Int)} {v : Value} {w : World} (h : makeO S M m log rv v w) : makeP S M m log rv v w := by
  obtain ⟨S', hS, h⟩ := h
  unfold makeP
  cases e : mkF log [] rv with
  | none =>
    rw [e] at h
    exact ⟨S', hS, h.2, h.1⟩
  | some ps =>
    rw [e] at h
    obtain ⟨uh, up, cp, h1, h2, h3, hst⟩ := h
    obtain ⟨T1, hT1, hst, hv1⟩ := St.freeze (α := Pn) hst h3 rfl
    exact ⟨T1, hS.trans hT1, hst, _, h1, prod_mk (r_dgx hm) (prod_mk (cs := [_]) ⟨_, rfl, h2.mono hT1⟩ (prod_mk (cs := [_]) ⟨_, rfl, hv1⟩ unit_mk))⟩

theorem mk_drop {log : List Ev} {rv : List (Int × Int)} {k : Nat} (hk : k < rv.length) : mkF log (bfR rv k) (rv.drop k) = if rv[k] ∈ bfR rv k ∨ rv[k].1 < 0 ∨ log.length ≤ rv[k].1 then none else
    match log[rv[k].1.toNat]? with
    | none => none
    | some e => if rv[k].2 < 0 ∨ e.2.2.1.length ≤ rv[k].2 then none else
      match mkF log (bfR rv (k + 1)) (rv.drop (k + 1)) with
      | none => none
      | some ps => some ((rv[k].1, rv[k].2, e.2.2.1.getD rv[k].2.toNat 0, proofM (lvM e) rv[k].2.toNat, ()) :: ps) := by
  have e : bfR rv (k + 1) = rv[k] :: bfR rv k := by
    unfold bfR
    rw [List.take_succ_eq_append_getElem hk, List.reverse_append]
    rfl
  rw [List.drop_eq_getElem_cons hk, mkF, e]
  all_goals rfl
theorem mk_bad {log : List Ev} {rv : List (Int × Int)} {k : Nat} (hk : k < rv.length) {f : List Pn → List Pn} (h : rv[k] ∈ bfR rv k ∨ rv[k].1 < 0 ∨ log.length ≤ rv[k].1) : (mkF log (bfR rv k) (rv.drop k)).map f = none := by
  rw [mk_drop hk, if_pos h]
  rfl
theorem mk_ix {log : List Ev} {rv : List (Int × Int)} {k : Nat} (hk : k < rv.length) {f : List Pn → List Pn} {e : Ev} (he : log[rv[k].1.toNat]? = some e) (h : rv[k].2 < 0 ∨ e.2.2.1.length ≤ rv[k].2) : (mkF log (bfR rv k) (rv.drop k)).map f = none := by
  rw [mk_drop hk, he]
  split
  · rfl
  · simp only [if_pos h]
    rfl
theorem mk_go {log : List Ev} {rv : List (Int × Int)} {k : Nat} (hk : k < rv.length) {ps : List Pn} {e : Ev} (he : log[rv[k].1.toNat]? = some e) (hn : rv[k] ∉ bfR rv k) (h1 : 0 ≤ rv[k].1) (h2 : rv[k].1 < log.length) (h3 : 0 ≤ rv[k].2) (h4 : rv[k].2 < e.2.2.1.length) :
    (mkF log (bfR rv k) (rv.drop k)).map (ps ++ ·) = (mkF log (bfR rv (k + 1)) (rv.drop (k + 1))).map ((ps ++ [(rv[k].1, rv[k].2, e.2.2.1.getD rv[k].2.toNat 0, proofM (lvM e) rv[k].2.toNat, ())]) ++ ·) := by
  rw [mk_drop hk, he, if_neg (by rintro (h | h); exact hn h; omega)]
  simp only [if_neg (show ¬ (rv[k].2 < 0 ∨ (e.2.2.1.length : Int) ≤ rv[k].2) by omega)]
  cases mkF log (bfR rv (k + 1)) (rv.drop (k + 1)) with
  | none => rfl
  | some qs => simp
theorem kyP_mem {rv : List (Int × Int)} {k : Nat} {p : Int × Int} : kyP p ∈ (rv.map kyP).take k ↔ p ∈ bfR rv k := by
  unfold bfR
  rw [List.mem_reverse, ← List.map_take]
  constructor
  · intro h
    obtain ⟨q, hq, he⟩ := List.mem_map.1 h
    simp only [kyP, Prod.mk.injEq] at he
    have : q = p := Prod.ext he.1 he.2.1
    exact this ▸ hq
  · intro h
    exact List.mem_map.2 ⟨p, h, rfl⟩

abbrev evB (a0 a1 a2 a3 a4 a5 a6 a7 a8 a9 c0 c1 c2 c3 c4 c5 : UInt8) (u p : Value) : List Value := [.int .u8 a0.toNat, .int .u8 a1.toNat, .int .u8 a2.toNat, .int .u8 a3.toNat, .int .u8 a4.toNat, .int .u8 a5.toNat, .int .u8 a6.toNat, .int .u8 a7.toNat, .int .u8 a8.toNat, .int .u8 a9.toNat, .int .u8 c0.toNat, .int .u8 c1.toNat, .int .u8 c2.toNat, .int .u8 c3.toNat, .int .u8 c4.toNat, .int .u8 c5.toNat, u, p]
theorem hdC_len {h : Hd} (k : HdOk h) : (hdC h).length = 66 := Rep.len (S := ⟨default, fun _ _ => 0, #[], fun _ => none⟩) (r_hd k)
theorem heads_snoc {log : List Ev} {k : Nat} (hk : k < log.length) : (log.take (k + 1)).map headM = (log.take k).map headM ++ [headM log[k]] := by
  rw [List.take_succ_eq_append_getElem hk, List.map_append]
  rfl
theorem heads_len {log : List Ev} {k : Nat} (hk : k ≤ log.length) : ((log.take k).map headM).length = k := by simp; omega

set_option maxRecDepth 20000 in
set_option maxHeartbeats 4000000 in
theorem makeO_c {S M} (w : World) (hst : St S M w) (hG : Glob S) (m : Dg) (hm : m.l.length = 16) (vl : Value) (log : List Ev) (hl : RSl S vl log) (hlen : log.length ≤ 1000) (hok : ∀ e ∈ log, evOk e) (vr : Value) (rv : List (Int × Int)) (hr : RSl S vr rv) (hrl : rv.length ≤ 1048576) :
    Rets Tryd.prog 11 [dgV m, vl, vr] w fun v w' => makeO S M m log rv v w' := by
  unfold Rets
  have hl1 := hl.oneCell
  have hr1 := hr.oneCell
  obtain ⟨a0, a1, a2, a3, a4, a5, a6, a7, a8, a9, c0, c1, c2, c3, c4, c5, rfl⟩ := dg16 hm
  refine rets_marks Tryd.func11 rfl ?_
  simp only [Tryd.ntmps11, List.size_toArray, List.length_cons, List.length_nil, Nat.reduceAdd, Nat.reduceSub, Array.replicate_succ, Array.replicate_zero, List.push_toArray, List.append_toArray, List.nil_append, List.cons_append]
  repeat' ((fail_if_success (with_reducible show Code.wp _ (Code.region 1 _ _) _ _ _)); first | ((fail_if_success (go_big_may)); (go_step)) | ((((first | (refine s_box hst evX rfl ?_; clear hst; intro bx w hst) | (refine s_alloc hst inX ?_; clear hst; intro bk w hst)))) <;> (try refine nY ?_) <;> (try replace hst := nH hst)))
  rename_i n3 _ n4 _ _ n6 _ K0 hK0
  change St S (.box bk _ _ :: .box n6 _ _ :: .box bx vr.cells.toList _ :: .box n4 vl.cells.toList _ :: .box n3 _ _ :: M) w at hst
  rw [cells_one hl1, cells_one hr1] at hst
  have hst0 := hst.perm ((List.Perm.cons _ (List.Perm.swap _ _ _)).trans (List.Perm.swap _ _ _))
  clear hst
  obtain ⟨S1, hS1, hst, hpr⟩ := pt_box (α := List (Int × Int)) (x := rv) hst0 (by exact ⟨vr, rfl, hr⟩) rfl
  clear hst0
  have hst0 := hst.perm ((List.Perm.cons _ (List.Perm.swap _ _ _)).trans (List.Perm.swap _ _ _))
  clear hst
  obtain ⟨S2, hS2, hst, hpl⟩ := pt_box (α := List Ev) (x := log) hst0 (by exact ⟨vl, rfl, hl.mono hS1⟩) rfl
  clear hst0
  generalize Value.pointer (some ⟨bx, 0, none⟩) = pR at *
  generalize Value.pointer (some ⟨n4, 0, none⟩) = pL at *
  replace hpr := hpr.mono hS2
  replace hG := hG.mono (hS1.trans hS2)
  rename Nat => n7
  repeat' (first | (((with_reducible (refine Sl.k_build ?_; with_unfolding_all refine s_qt hst (qt_buildS (cs := [.int .u8 a0.toNat, .int .u8 a1.toNat, .int .u8 a2.toNat, .int .u8 a3.toNat, .int .u8 a4.toNat, .int .u8 a5.toNat, .int .u8 a6.toNat, .int .u8 a7.toNat, .int .u8 a8.toNat, .int .u8 a9.toNat, .int .u8 c0.toNat, .int .u8 c1.toNat, .int .u8 c2.toNat, .int .u8 c3.toNat, .int .u8 c4.toNat, .int .u8 c5.toNat, .slice none 0 0, .slice none 0 0]) inX inX (by kernel_rfl)) ?_))) <;> (try refine nY ?_)) | ((fail_if_success (go_big_may)); (go_step)) | ((first | (with_reducible refine Sl.k_load ?_; (first | refine s_qt hst (by exact qt_loadA evX BoxIn.h inX rfX) ?_ | (refine s_ex hst (qt_ldp_list evX asX inX) ?_; rintro v ⟨hvl, hv1⟩))) | (with_reducible refine Sl.k_call ?_; (refine s_qt hst (by exact qt_len evX asX inX) ?_))) <;> (try refine nY ?_)) | ((((first | (with_reducible refine Sl.k_store ?_; (refine s_store hst rfl _ BoxIn.h inX evX rfl lenOk oneOk (by simp) ?_); clear hst; intro w hst) | (refine s_alloc hst inX ?_; clear hst; intro bk w hst)))) <;> (try refine nY ?_) <;> (try replace hst := nH hst)))
  rename Nat => n8
  have hst := hst.nil 44 66
  go_loopw [20] (fun v wr => ∃ (k : Nat) (u : Value), k ≤ log.length ∧ v = .int .i64 k ∧ u.oneCell' = true ∧ St S2 (.sl u 44 66 k (cF hdC ((log.take k).map headM)) :: .box n8 (evB a0 a1 a2 a3 a4 a5 a6 a7 a8 a9 c0 c1 c2 c3 c4 c5 u (.slice none 0 0)) 31 :: .box n7 [.int .i64 0] 32 :: .box n6 evZ 31 :: .box n3 (u8s [a0, a1, a2, a3, a4, a5, a6, a7, a8, a9, c0, c1, c2, c3, c4, c5]) 23 :: M) wr) (fun v _ => log.length - (intOf v).toNat)
  case atStart => exact ⟨0, _, Nat.zero_le _, rfl, rfl, hst⟩
  case round =>
    clear hst
    obtain ⟨k, u, hk, rfl, hu1, hst⟩ := hrel
    by_cases hlt : k < log.length
    · obtain ⟨e1, e2, e3⟩ := hok _ (List.getElem_mem hlt)
      have hsn := Lib.hid (heads_snoc hlt)
      repeat' ((fail_if_success (with_reducible show Code.wp _ (Code.region 5 _ _) _ _ _)); first | ((fail_if_success (go_big_may)); (go_step)) | ((first | (with_reducible refine Sl.k_load ?_; ((refine s_ex hst (qt_ldp evX asX inX) ?_; rintro v ⟨cl, rfl, hcl⟩))) | (with_reducible refine Sl.k_index ?_; (((refine s_ex hst (qt_index evX asX rfl inX inX omX omX) ?_); rintro v hp; (try simp only [Int.toNat_natCast, Int.toNat_natCast_add_one, Int.reduceToNat] at hp))))) <;> (try refine nY ?_)) | (with_reducible refine Sl.gate rfl ?_; (go_step)) | ((((first | (with_reducible refine Sl.k_store ?_; (refine s_stR hst rfl BoxIn.h evX asX inX rfl rfl ?_); clear hst; intro w hst) | (refine s_alloc hst inX ?_; clear hst; intro bk w hst)))) <;> (try refine nY ?_) <;> (try replace hst := nH hst)))
      have hst0 := hst
      clear hst
      obtain ⟨S3, hS3, hst, hpv⟩ := pt_box (α := Ev) hst0 hcl (Rep.len hcl)
      clear hst0
      generalize Value.pointer (some ⟨bk, 0, none⟩) = pV at *
      replace hG := hG.mono hS3
      have okH : HdOk (headM log[k]) := headM_ok hcl ⟨e1, e2, e3⟩
      have cH := fun {S : Snap} {M : List Chunk} (w : World) (hst : St S M w) (hG : Glob S) (cs : List Value) (hR : Rep.R S cs log[k]) => head_c w hst hG cs log[k] hR e1 e2 e3
      generalize headM log[k] = E at *
      have hl66 := hdC_len okH
      generalize hcs0 : cF hdC ((log.take k).map headM) = cs0 at *
      refine v_begin hst (by kernel_rfl) ?_; clear hst; intro ops; (try refine nY ?_)
      (refine t_qt 0 rfl (by kernel_rfl) rfl rfl (by exact qt_field rfl inX) ?_) <;> (try refine nY ?_)
      (refine t_qt 1 rfl (by kernel_rfl) rfl rfl (by exact qt_load rfl _ BoxIn.h inX rfl rfl) ?_) <;> (try refine nY ?_)
      ((refine t_ex0 2 rfl (by kernel_rfl) rfl rfl (qt_ldp evX hpv inX ) ?_; rintro  v2 ⟨cl2, rfl, hcl2⟩)) <;> (try refine nY ?_)
      (refine t_call 3 rfl (by kernel_rfl) rfl (fun S' M' w hS hM hst => cH w hst (hG.mono hS) cl2 (Rep.mono hS hcl2)) inX rfl ?_) <;> (try refine nY ?_)
      refine v_one 4 rfl (by kernel_rfl) ?_; intro w hst K hK; refine s_lit (vs := [hdV E]) (cs := hdC E) hst inX inX rfl rfl (by simp [Value.cells, hl66]) (by simp [Value.cells]) (by omega) (by omega) ?_; clear hst; intro x4 w hst; (try refine nY ?_); (try replace hst := nH hst); refine v_next hK hst (Snap.Le.refl _) (Suf.cons (Suf.refl _)) ?_; clear hst hK K; (try clear w); (try refine nY ?_)
      refine v_one 5 rfl (by kernel_rfl) ?_; intro w hst K hK; refine s_append (j := 0) hst evX evX SlIn.h rfl inX inX inX (Rep.one (S := S) (r_hd okH)) (by omega) (by omega) (by decide) ?_; clear hst; intro x5 w hst; (try refine nY ?_); (try replace hst := nH hst); replace hst := hst.drop; have hone5 := sl_one hst; refine v_last hK hst ?_; clear hst hK K; (try clear w); (try refine nY ?_)
      (refine t_qt 6 rfl (by kernel_rfl) rfl rfl (by exact qt_field rfl inX) ?_) <;> (try refine nY ?_)
      refine v_one 7 rfl (by kernel_rfl) ?_; intro w hst K hK; (refine s_st1 hst rfl BoxIn.h evX asX inX (by simp <;> omega) ?_); clear hst; intro w hst; (try refine nY ?_); (try replace hst := nH hst); refine v_last hK hst ?_; clear hst hK K; (try clear w); (try refine nY ?_)
      refine v_done (by kernel_rfl) ?_; clear ops; intro w hst
      repeat' (first | ((fail_if_success (go_big_may)); (go_step)) | (with_reducible refine Sl.gate rfl ?_; (go_step)))
      go_roundw
      case rel => exact ⟨k + 1, x5, by omega, by go_num, hone5, by rw [hsn.out, cF_snoc, hcs0]; exact St.weaken hS3 hst⟩
      case measure => simp [intOf]; omega
    · obtain rfl : k = log.length := by omega
      rw [List.take_length] at hst
      repeat' (first | (((with_reducible refine Sl.k_call ?_; ((refine s_call (distinct_c _ hst (.func (.func 27) #[] #[pR]) rfl) inX rfl ?_; clear hst; rintro v w ⟨b4, rfl, hst⟩)))) <;> (try refine nY ?_) <;> (try replace hst := nH hst)) | ((fail_if_success (go_big_may)); (go_step)) | (with_reducible refine Sl.gate rfl ?_; (go_step)))
      have hks : ∀ k ∈ rv.map kyP, KyOk k := fun k hk => by
        obtain ⟨p, hp, rfl⟩ := List.mem_map.1 hk
        obtain ⟨h1, h2⟩ := pair_ok hr p hp
        exact ⟨h1, h2⟩
      have hlenk : (rv.map kyP).length = rv.length := List.length_map _
      have hit := distinct1_c (b := b4) (S := S2) (gf := 27) (lb := [pR]) inferInstance hks (A := fun k => []) (by rw [hlenk]; exact make1_c rv hrl _ hpr)
      have hst1 := hst.perm (List.Perm.cons _ (List.perm_middle (l₁ := []).symm))
      have hst := hst.nil 52 4
      have hst := hst.perm (List.Perm.swap _ _ _)
      refine s_rangeX2 (A := fun k => .box b4 [.func (.func 27) #[] [pR].toArray] 90 :: [])
        (fun k T N => ∃ up cp ps, N = .sl up 52 4 k cp :: .sl u 44 66 log.length (cF hdC (log.map headM)) :: .box n8 (evB a0 a1 a2 a3 a4 a5 a6 a7 a8 a9 c0 c1 c2 c3 c4 c5 u up) 31 :: .box n7 [.int .i64 0] 32 :: .box n6 evZ 31 :: .box n3 (u8s [a0, a1, a2, a3, a4, a5, a6, a7, a8, a9, c0, c1, c2, c3, c4, c5]) 23 :: M ∧ up.oneCell' = true ∧ RL (α := Pn) T cp ps ∧ ps.length = k ∧ Hid (mkF log [] rv = (mkF log (bfR rv k) (rv.drop k)).map (ps ++ ·)))
        (fun T N => ∃ d1 d2 d3 d4, N = d1 :: d2 :: d3 :: .box n7 [.int .i64 1] 32 :: .box n6 evZ 31 :: d4 :: M ∧ mkF log [] rv = none)
        hst ⟨_, [], [], rfl, rfl, RL.nil, rfl, Lib.hid (by simp [bfR])⟩ rfl inX hit inX ?_ (by simp) (by simp) (by simp) (by decide) (by decide) (by decide) ?_ ?_ ?_
      · rintro k vs ⟨x, hx, rfl⟩
        exact ⟨kyC x, _, rfl, rfl, rfl⟩
      · clear hst
        rintro r k b cs v S3 M3 C w hk ⟨x, hx, hvs⟩ hS3 ⟨up, cp, ps, rfl, hup, hRp, hpl3, hmk⟩ hst
        have hkl : k < rv.length := by rw [hlenk] at hk; exact hk
        obtain rfl : x = kyP rv[k] := by rw [kyP_get hkl] at hx; exact (Option.some.inj hx).symm
        obtain ⟨rfl, rfl⟩ : cs = kyC (kyP rv[k]) ∧ v = .bool (!decide (kyP rv[k] ∈ (rv.map kyP).take k)) := by
          have h2 := (List.cons.inj (List.cons.inj hvs).2).1
          have := (List.cons.inj hvs).1
          exact ⟨by simpa using this, h2⟩
        obtain ⟨hp1, hp2⟩ := pair_ok hr rv[k] (List.getElem_mem hkl)
        have hpl := hpl.mono hS3
        have hG := hG.mono hS3
        simp only [List.cons_append, List.nil_append, kyC, kyP] at hst
        simp only [List.set_cons_succ, List.set_cons_zero]
        generalize hHC : cF hdC (log.map headM) = HC at *
        cases hfr : (!decide (kyP rv[k] ∈ (rv.map kyP).take k)) with
        | false =>
          repeat' (first | (with_reducible refine wl_nil ?_) | (with_reducible refine xt_n ?_) | (with_reducible refine xt_r ?_) | (with_reducible refine xb_r ?_) | (with_reducible refine wpIn_seq ?_) | (with_reducible refine wpIn_block ?_) | (with_reducible refine wpIn_ret ?_) | (with_reducible refine rg_in ?_) | (with_reducible (refine ci_true evX ?_)) | go_skip | (((with_reducible (refine Sl.k_build ?_; with_unfolding_all refine s_qt hst (qt_buildS (cs := evZ) inX inX (by kernel_rfl)) ?_))) <;> (try refine nY ?_)) | ((fail_if_success (go_big_may)); (go_step)) | (with_reducible refine Sl.gate rfl ?_; (go_step)) | (((((with_reducible refine Sl.k_store ?_; (refine s_store hst rfl _ BoxIn.h inX evX rfl lenOk oneOk (by simp) ?_); clear hst; intro w hst)))) <;> (try refine nY ?_) <;> (try replace hst := nH hst)))
          refine .inr ⟨rfl, S3, _, Snap.Le.refl _, ⟨_, _, _, _, rfl, ?_⟩, hst.drop⟩
          rw [hmk.out, mk_bad hkl (.inl (kyP_mem.1 (by simpa using hfr)))]
        | true =>
          have hnew : rv[k] ∉ bfR rv k := fun h => by
            have := kyP_mem.2 h
            simp [this] at hfr
          repeat' ((fail_if_success (with_reducible show Code.wpIn _ _ _ (Code.region 13 _ _) _ _ _)); first | (with_reducible refine wl_nil ?_) | (with_reducible refine xt_n ?_) | (with_reducible refine xt_r ?_) | (with_reducible refine xb_r ?_) | (with_reducible refine wpIn_seq ?_) | (with_reducible refine wpIn_block ?_) | (with_reducible refine wpIn_ret ?_) | (with_reducible refine wpIn_skip ?_) | (with_reducible refine rg_in ?_) | (with_reducible (refine ci_true evX ?_)) | (with_reducible refine ci_split evX ?_ ?_ <;> intro hg <;> ((try simp only [decide_eq_true_eq, decide_eq_false_iff_not, Bool.not_false, Bool.not_true, beq_iff_eq, beq_eq_false_iff_ne, ne_eq, Bool.not_eq_true', Bool.not_eq_false', bne_iff_ne, bne_eq_false_iff_eq] at hg))) | go_skip | ((first | (with_reducible (refine Sl.k_build ?_; with_unfolding_all refine s_qt hst (qt_buildS (cs := evZ) inX inX (by kernel_rfl)) ?_)) | (with_reducible refine Sl.k_guard ?_; (first | (refine Sl.guard_yes rfl ?_) | (refine Sl.guard_cases rfl ?_ ?_ <;> intro hg <;> (simp only [hg, Bool.not_true, Bool.not_false])) <;> (try simp only [decide_eq_true_eq, decide_eq_false_iff_not, Bool.not_false, Bool.not_true, beq_iff_eq, beq_eq_false_iff_ne, bne_iff_ne, bne_eq_false_iff_eq, ne_eq] at hg)))) <;> (try refine nY ?_)) | ((fail_if_success (go_big_may)); (go_step)) | ((first | (with_reducible refine Sl.k_load ?_; (first | refine s_qt hst (by exact qt_load rfl _ BoxIn.h inX rfl rfl) ?_ | (refine s_ex hst (qt_ldp_list evX asX inX) ?_; rintro v ⟨hvl, hv1⟩))) | (with_reducible refine Sl.k_field ?_; (refine s_qt hst (qt_field rfl inX) ?_)) | (with_reducible refine Sl.k_call ?_; (refine s_qt hst (by exact qt_len evX asX inX) ?_))) <;> (try refine nY ?_)) | (with_reducible refine Sl.gate rfl ?_; (go_step)) | (((((with_reducible refine Sl.k_store ?_; (refine s_store hst rfl _ BoxIn.h inX evX rfl lenOk oneOk (by simp) ?_); clear hst; intro w hst)))) <;> (try refine nY ?_) <;> (try replace hst := nH hst)))
          all_goals first
            | (refine .inr ⟨rfl, S3, _, Snap.Le.refl _, ⟨_, _, _, _, rfl, ?_⟩, hst.drop⟩
               rw [hmk.out, mk_bad hkl (.inr (by omega))])
            | skip
          have hjl : rv[k].1.toNat < log.length := by omega
          have hee := List.getElem?_eq_getElem hjl
          obtain ⟨e1, e2, e3⟩ := hok _ (List.getElem_mem hjl)
          have hlv : (lvM log[rv[k].1.toNat]).length = log[rv[k].1.toNat].2.2.1.length := leavesP_len _ _
          by_cases hix : 0 ≤ rv[k].2 ∧ rv[k].2 < log[rv[k].1.toNat].2.2.1.length
          · skip
            refine v_beginIn (.inr ⟨_, rfl⟩) loX rfl hst (by kernel_rfl) ?_; clear hst; intro ops; (try refine nY ?_)
            ((refine t_ex0 0 rfl (by kernel_rfl) rfl rfl (qt_ldp_list evX hpl inX ) ?_; rintro  v0 ⟨hv0, hv01⟩)) <;> (try refine nY ?_)
            (refine t_qt 1 rfl (by kernel_rfl) rfl rfl (by exact qt_field rfl inX) ?_) <;> (try refine nY ?_)
            (refine t_qt 2 rfl (by kernel_rfl) rfl rfl (by exact qt_load rfl _ BoxIn.h inX rfl rfl) ?_) <;> (try refine nY ?_)
            ((refine t_ex0 3 rfl (by kernel_rfl) rfl rfl (qt_index evX hv0 rfl inX inX omX omX ) ?_; rintro  v3 hp3)) <;> (try refine nY ?_)
            ((refine t_ex0 4 rfl (by kernel_rfl) rfl rfl (qt_ldp evX hp3 inX ) ?_; rintro  v4 ⟨cl4, rfl, hcl4⟩)) <;> (try refine nY ?_)
            (refine t_qt 6 rfl (by kernel_rfl) rfl rfl (by exact qt_field rfl inX) ?_) <;> (try refine nY ?_)
            (refine t_qt 7 rfl (by kernel_rfl) rfl rfl (by exact qt_load rfl _ BoxIn.h inX rfl rfl) ?_) <;> (try refine nY ?_)
            refine v_one 5 rfl (by kernel_rfl) ?_; intro w hst K hK; refine s_call (leaves_f w hst hG cl4 _ hcl4 e2) inX rfl ?_; clear hst; rintro v5 w ⟨T5, hT5, hv5, hv51, hst⟩; (try refine nY ?_); (try replace hst := nH hst); refine v_next hK hst hT5 (Suf.refl _) ?_; clear hst hK K; (try clear w); (try refine nY ?_)
            refine v_one 8 rfl (by kernel_rfl) ?_; intro w hst K hK; refine s_call (prove_f w hst (hG.mono hT5) v5 _ hv5 rv[k].2 hix.1 (by rw [hlv]; exact hix.2) (by rw [hlv]; exact e2)) inX rfl ?_; clear hst; rintro v8 w ⟨uq, rfl, T8, hT8, hv8, hv81, hst⟩; (try refine nY ?_); (try replace hst := nH hst); refine v_next hK hst hT8 (Suf.refl _) ?_; clear hst hK K; (try clear w); (try refine nY ?_)
            (refine t_qt 9 rfl (by kernel_rfl) rfl rfl (by exact qt_move evX) ?_) <;> (try refine nY ?_)
            (refine t_qt 10 rfl (by kernel_rfl) rfl rfl (by exact qt_extract rfl rfl) ?_) <;> (try refine nY ?_)
            (refine t_qt 11 rfl (by kernel_rfl) rfl rfl (by exact qt_extract rfl rfl) ?_) <;> (try refine nY ?_)
            (refine t_qt 12 rfl (by kernel_rfl) rfl rfl (by exact qt_assign evX) ?_) <;> (try refine nY ?_)
            (refine t_qt 13 rfl (by kernel_rfl) rfl rfl (by exact qt_assign evX) ?_) <;> (try refine nY ?_)
            refine v_done (by kernel_rfl) ?_; clear ops; intro w hst
            have hpl := hpl.mono (hT5.trans hT8)
            have hst := hst.perm (List.perm_middle (l₁ := [_, _]))
            simp only [List.cons_append, List.nil_append] at hst
            repeat' ((fail_if_success (with_reducible show Code.wpIn _ _ _ (Code.region 16 _ _) _ _ _)); first | (with_reducible refine wl_nil ?_) | (with_reducible refine xt_n ?_) | (with_reducible refine wpIn_seq ?_) | (with_reducible refine wpIn_skip ?_) | (with_reducible refine rg_in ?_) | (with_reducible (refine ci_false evX ?_)) | ((fail_if_success (go_big_may)); (go_step)) | (with_reducible refine Sl.gate rfl ?_; (go_step)))
            obtain ⟨qa, qn, qc, rfl⟩ := rsl_formE hv8
            have htl : rv[k].2.toNat < log[rv[k].1.toNat].2.2.1.length := by omega
            refine v_beginIn (.inr ⟨_, rfl⟩) loX rfl hst (by kernel_rfl) ?_; clear hst; intro ops; (try refine nY ?_)
            (refine t_qt 0 rfl (by kernel_rfl) rfl rfl (by exact qt_field rfl inX) ?_) <;> (try refine nY ?_)
            (refine t_qt 1 rfl (by kernel_rfl) rfl rfl (by exact qt_load rfl _ BoxIn.h inX rfl rfl) ?_) <;> (try refine nY ?_)
            (refine t_qt 2 rfl (by kernel_rfl) rfl rfl (by exact qt_field rfl inX) ?_) <;> (try refine nY ?_)
            (refine t_qt 3 rfl (by kernel_rfl) rfl rfl (by exact qt_load rfl _ BoxIn.h inX rfl rfl) ?_) <;> (try refine nY ?_)
            (refine t_qt 4 rfl (by kernel_rfl) rfl rfl (by exact qt_field rfl inX) ?_) <;> (try refine nY ?_)
            (refine t_qt 5 rfl (by kernel_rfl) rfl rfl (by exact qt_load rfl _ BoxIn.h inX rfl rfl) ?_) <;> (try refine nY ?_)
            ((refine t_ex0 6 rfl (by kernel_rfl) rfl rfl (qt_ldp_list evX hpl inX ) ?_; rintro  v6 ⟨hv6, hv61⟩)) <;> (try refine nY ?_)
            (refine t_qt 7 rfl (by kernel_rfl) rfl rfl (by exact qt_field rfl inX) ?_) <;> (try refine nY ?_)
            (refine t_qt 8 rfl (by kernel_rfl) rfl rfl (by exact qt_load rfl _ BoxIn.h inX rfl rfl) ?_) <;> (try refine nY ?_)
            ((refine t_ex0 9 rfl (by kernel_rfl) rfl rfl (qt_index evX hv6 rfl inX inX omX omX ) ?_; rintro  v9 hp9)) <;> (try refine nY ?_)
            ((refine t_ex0 10 rfl (by kernel_rfl) rfl rfl (qt_fieldp evX hp9 inX inX rfl ) ?_; rintro  v10 hp10)) <;> (try refine nY ?_)
            ((refine t_ex0 11 rfl (by kernel_rfl) rfl rfl (qt_ldp_list evX hp10 inX ) ?_; rintro  v11 ⟨hv11, hv111⟩)) <;> (try refine nY ?_)
            (refine t_qt 12 rfl (by kernel_rfl) rfl rfl (by exact qt_field rfl inX) ?_) <;> (try refine nY ?_)
            (refine t_qt 13 rfl (by kernel_rfl) rfl rfl (by exact qt_load rfl _ BoxIn.h inX rfl rfl) ?_) <;> (try refine nY ?_)
            ((refine t_ex0 14 rfl (by kernel_rfl) rfl rfl (qt_index evX hv11 rfl inX inX omX omX ) ?_; rintro  v14 hp14)) <;> (try refine nY ?_)
            ((refine t_ex0 15 rfl (by kernel_rfl) rfl rfl (qt_ldp_int evX hp14 inX ) ?_; rintro  v15 ⟨rfl, hI15⟩)) <;> (try refine nY ?_)
            (refine t_qt 16 rfl (by kernel_rfl) rfl rfl (by exact qt_move evX) ?_) <;> (try refine nY ?_)
            (refine t_qt 17 rfl (by kernel_rfl) rfl rfl (qt_buildS (cs := [.int .i64 rv[k].1, .int .i64 rv[k].2, .int .i64 log[rv[k].1.toNat].2.2.1[rv[k].2.toNat], .slice qa qn qc]) inX inX (by kernel_rfl)) ?_) <;> (try refine nY ?_)
            refine v_one 18 rfl (by kernel_rfl) ?_; intro w hst K hK; refine s_lit (vs := [.agg #[.int .i64 rv[k].1, .int .i64 rv[k].2, .int .i64 log[rv[k].1.toNat].2.2.1[rv[k].2.toNat], .slice qa qn qc]]) (cs := [.int .i64 rv[k].1, .int .i64 rv[k].2, .int .i64 log[rv[k].1.toNat].2.2.1[rv[k].2.toNat], .slice qa qn qc]) hst inX inX rfl rfl (by simp [Value.cells]) (by simp [Value.cells]) (by omega) (by omega) ?_; clear hst; intro x18 w hst; (try refine nY ?_); (try replace hst := nH hst); refine v_next hK hst (Snap.Le.refl _) (Suf.cons (Suf.refl _)) ?_; clear hst hK K; (try clear w); (try refine nY ?_)
            refine v_one 19 rfl (by kernel_rfl) ?_; intro w hst K hK; refine s_append (j := 0) hst evX evX SlIn.h rfl inX inX inX ((by intro q hq; simp only [List.mem_cons, List.not_mem_nil, or_false] at hq; rcases hq with rfl | rfl | rfl | rfl <;> rfl)) (by omega) (by omega) (by decide) ?_; clear hst; intro x19 w hst; (try refine nY ?_); (try replace hst := nH hst); replace hst := hst.drop; have hone19 := sl_one hst; refine v_last hK hst ?_; clear hst hK K; (try clear w); (try refine nY ?_)
            (refine t_qt 20 rfl (by kernel_rfl) rfl rfl (by exact qt_field rfl inX) ?_) <;> (try refine nY ?_)
            refine v_one 21 rfl (by kernel_rfl) ?_; intro w hst K hK; (refine s_st1 hst rfl BoxIn.h evX asX inX (by simp <;> omega) ?_); clear hst; intro w hst; (try refine nY ?_); (try replace hst := nH hst); refine v_last hK hst ?_; clear hst hK K; (try clear w); (try refine nY ?_)
            refine v_done (by kernel_rfl) ?_; clear ops; intro w hst
            repeat' ((with_reducible refine xb_n ?_))
            have hRpt : Rep.R T8 [.int .i64 rv[k].1, .int .i64 rv[k].2, .int .i64 log[rv[k].1.toNat].2.2.1[rv[k].2.toNat], .slice qa qn qc] ((rv[k].1, rv[k].2, log[rv[k].1.toNat].2.2.1.getD rv[k].2.toNat 0, proofM (lvM log[rv[k].1.toNat]) rv[k].2.toNat, ()) : Pn) := by
              refine prod_mk (cs := [_]) ⟨rfl, hp1⟩ (prod_mk (cs := [_]) ⟨rfl, hp2⟩ (prod_mk (cs := [_]) ⟨?_, ?_⟩ (prod_mk (cs := [_]) ⟨_, rfl, hv8⟩ unit_mk)))
              · rw [List.getD_eq_getElem?_getD, List.getElem?_eq_getElem htl]
                rfl
              · rw [List.getD_eq_getElem?_getD, List.getElem?_eq_getElem htl]
                exact hI15
            refine .inl ⟨rfl, ⟨_, kyP_get hkl, fun h => hnew (kyP_mem.1 h)⟩, T8, _, hT5.trans hT8, ⟨x19, _, ps ++ [_], rfl, hone19, (hRp.mono (hT5.trans hT8)).append (RL.one_mk hRpt), by rw [List.length_append, hpl3]; rfl, Lib.hid (hmk.out.trans (mk_go hkl hee hnew (by omega) (by omega) hix.1 hix.2))⟩, ?_⟩
            exact (hst.perm (List.perm_middle (l₁ := [_, _])).symm).drop
          · skip
            refine v_beginIn (.inr ⟨_, rfl⟩) loX rfl hst (by kernel_rfl) ?_; clear hst; intro ops; (try refine nY ?_)
            ((refine t_ex0 0 rfl (by kernel_rfl) rfl rfl (qt_ldp_list evX hpl inX ) ?_; rintro  v0 ⟨hv0, hv01⟩)) <;> (try refine nY ?_)
            (refine t_qt 1 rfl (by kernel_rfl) rfl rfl (by exact qt_field rfl inX) ?_) <;> (try refine nY ?_)
            (refine t_qt 2 rfl (by kernel_rfl) rfl rfl (by exact qt_load rfl _ BoxIn.h inX rfl rfl) ?_) <;> (try refine nY ?_)
            ((refine t_ex0 3 rfl (by kernel_rfl) rfl rfl (qt_index evX hv0 rfl inX inX omX omX ) ?_; rintro  v3 hp3)) <;> (try refine nY ?_)
            ((refine t_ex0 4 rfl (by kernel_rfl) rfl rfl (qt_ldp evX hp3 inX ) ?_; rintro  v4 ⟨cl4, rfl, hcl4⟩)) <;> (try refine nY ?_)
            (refine t_qt 6 rfl (by kernel_rfl) rfl rfl (by exact qt_field rfl inX) ?_) <;> (try refine nY ?_)
            (refine t_qt 7 rfl (by kernel_rfl) rfl rfl (by exact qt_load rfl _ BoxIn.h inX rfl rfl) ?_) <;> (try refine nY ?_)
            refine v_one 5 rfl (by kernel_rfl) ?_; intro w hst K hK; refine s_call (leaves_f w hst hG cl4 _ hcl4 e2) inX rfl ?_; clear hst; rintro v5 w ⟨T5, hT5, hv5, hv51, hst⟩; (try refine nY ?_); (try replace hst := nH hst); refine v_next hK hst hT5 (Suf.refl _) ?_; clear hst hK K; (try clear w); (try refine nY ?_)
            refine v_one 8 rfl (by kernel_rfl) ?_; intro w hst K hK; refine s_call (prove0_c w hst v5 _ hv5 rv[k].2 (by omega) (by rw [hlv]; exact e2)) inX rfl ?_; clear hst; rintro v8 w ⟨rfl, hst⟩; (try refine nY ?_); (try replace hst := nH hst); refine v_next hK hst (Snap.Le.refl _) (Suf.refl _) ?_; clear hst hK K; (try clear w); (try refine nY ?_)
            (refine t_qt 9 rfl (by kernel_rfl) rfl rfl (by exact qt_move evX) ?_) <;> (try refine nY ?_)
            (refine t_qt 10 rfl (by kernel_rfl) rfl rfl (by exact qt_extract rfl rfl) ?_) <;> (try refine nY ?_)
            (refine t_qt 11 rfl (by kernel_rfl) rfl rfl (by exact qt_extract rfl rfl) ?_) <;> (try refine nY ?_)
            (refine t_qt 12 rfl (by kernel_rfl) rfl rfl (by exact qt_assign evX) ?_) <;> (try refine nY ?_)
            (refine t_qt 13 rfl (by kernel_rfl) rfl rfl (by exact qt_assign evX) ?_) <;> (try refine nY ?_)
            refine v_done (by kernel_rfl) ?_; clear ops; intro w hst
            repeat' (first | (with_reducible refine wl_nil ?_) | (with_reducible refine xt_n ?_) | (with_reducible refine xt_r ?_) | (with_reducible refine xb_r ?_) | (with_reducible refine wpIn_seq ?_) | (with_reducible refine wpIn_ret ?_) | (with_reducible refine rg_in ?_) | (with_reducible (refine ci_true evX ?_)) | (((with_reducible (refine Sl.k_build ?_; with_unfolding_all refine s_qt hst (qt_buildS (cs := evZ) inX inX (by kernel_rfl)) ?_))) <;> (try refine nY ?_)) | ((fail_if_success (go_big_may)); (go_step)) | (with_reducible refine Sl.gate rfl ?_; (go_step)) | (((((with_reducible refine Sl.k_store ?_; (refine s_store hst rfl _ BoxIn.h inX evX rfl lenOk oneOk (by simp) ?_); clear hst; intro w hst)))) <;> (try refine nY ?_) <;> (try replace hst := nH hst)))
            refine .inr ⟨rfl, T5, _, hT5, ⟨_, _, _, _, rfl, ?_⟩, hst.drop⟩
            rw [hmk.out, mk_ix hkl hee (by omega)]
      · clear hst
        rintro d S3 M3 w hS3 ⟨up, cp, ps, rfl, hup, hRp, hpl3, hmk⟩ hst
        simp only [List.cons_append, List.nil_append] at hst
        obtain ⟨p1, p2, p3, rfl⟩ := sl_formk (k := 2) hst rfl
        obtain ⟨q1, q2, q3, rfl⟩ := sl_formk (k := 3) hst rfl
        have hmk := hmk.out
        rw [hlenk, List.drop_length, mkF] at hmk
        simp only [Option.map_some, List.append_nil] at hmk
        have hok2 : ∀ h ∈ log.map headM, HdOk h := fun h hh => by
          obtain ⟨e, he, rfl⟩ := List.mem_map.1 hh
          obtain ⟨cs, hR⟩ := rsl_rep hl e he
          exact headM_ok hR (hok e he)
        repeat' (first | ((fail_if_success (go_big_may)); (go_step)) | (((with_reducible refine Sl.k_load ?_; (refine s_qt hst (by exact qt_loadA evX BoxIn.h inX rfX) ?_))) <;> (try refine nY ?_)) | (((((with_reducible refine Sl.k_store ?_; (refine s_store hst rfl _ BoxIn.h inX evX rfl lenOk oneOk (by simp) ?_); clear hst; intro w hst)))) <;> (try refine nY ?_) <;> (try replace hst := nH hst)))
        refine ret_mark2 hst rfl (fun w' hst' => rv_cell hst' rfl _ BoxIn.h inX rfl rfl) (fun w' hst' => rv_cell hst' rfl _ BoxIn.h inX rfl rfl) fun w' hst' => ?_
        refine ⟨_, rfl, ?_⟩
        unfold makeO
        rw [hmk]
        have hst2 := hst'.drop
        have hst3 := hst2.perm (List.Perm.swap _ _ _)
        obtain ⟨T2, hT2, hst4, hv2⟩ := St.freeze (α := Hd) hst3 (rl_hds hok2) (by simp)
        refine ⟨T2, ((hS1.trans hS2).trans hS3).trans hT2, _, _, cp, rfl, hv2, hRp.mono hT2, ?_⟩
        have hst5 := (hst4.perm (List.Perm.swap _ _ _)).drop
        have hst6 := (hst5.perm (List.Perm.swap _ _ _)).drop
        have hst7 := (hst6.perm (List.Perm.swap _ _ _)).drop
        have hst8 := (hst7.perm (List.Perm.swap _ _ _)).drop
        rw [hpl3]
        exact hst8
      · clear hst
        rintro d k S3 M3 w hk hS3 ⟨d1, d2, d3, d4, rfl, hno⟩ hst
        simp only [List.cons_append, List.nil_append] at hst
        repeat' (((fail_if_success (go_big_may)); (go_step)))
        refine ret_mark2 hst rfl (fun w' hst' => rv_cell hst' rfl _ BoxIn.h inX rfl rfl) (fun w' hst' => rv_cell hst' rfl _ BoxIn.h inX rfl rfl) fun w' hst' => ⟨_, rfl, S, Snap.Le.refl _, ?_⟩
        rw [hno]
        exact ⟨rfl, St.weaken ((hS1.trans hS2).trans hS3) hst'.drop.drop.drop.drop.drop.drop.drop⟩
theorem make_c {S M} (w : World) (hst : St S M w) (hG : Glob S) (m : Dg) (hm : m.l.length = 16) (vl : Value) (log : List Ev) (hl : RSl S vl log) (hlen : log.length ≤ 1000) (hok : ∀ e ∈ log, evOk e) (vr : Value) (rv : List (Int × Int)) (hr : RSl S vr rv) (hrl : rv.length ≤ 1048576) :
    Rets Tryd.prog 11 [dgV m, vl, vr] w fun v w' => makeP S M m log rv v w' :=
  (makeO_c w hst hG m hm vl log hl hlen hok vr rv hr hrl).mono fun _ _ h => makeO_P hm h
end Go.Proofs.YtgihhhdeoaplhaaDoor

/- Package evidence: small logs: the reference's Few, walked. -/
--@u32
--@hgp
--@flat
--@dg
--@ex0
namespace Go.Proofs.YtgihhhdeoaplhaaDoor
set_option linter.unusedSimpArgs false
set_option linter.unusedVariables false
open Go.RowKit Go.Sl

def fewX (e : Ev) : Prop := e.2.1.length ≤ 10 ∧ e.2.2.1.length ≤ 10 ∧ e.2.2.2.1.length ≤ 10
instance (e : Ev) : Decidable (fewX e) := inferInstanceAs (Decidable (_ ∧ _))
def fewN (log : List Ev) : Bool := decide (log.length ≤ 6) && log.all fun e => decide (fewX e)
theorem fewN_big {log : List Ev} (h : 6 < log.length) : fewN log = false := by rw [fewN, decide_eq_false (by omega)]; rfl
theorem fewN_no {log : List Ev} {i : Nat} (h : i < log.length) (hn : ¬ fewX log[i]) : fewN log = false := by
  rw [fewN, Bool.and_eq_false_iff]
  refine .inr (Bool.eq_false_iff.2 fun ha => hn ?_)
  exact of_decide_eq_true (List.all_eq_true.1 ha _ (List.getElem_mem h))
theorem fewN_yes {log : List Ev} (h : log.length ≤ 6) (ha : ∀ e ∈ log, fewX e) : fewN log = true := by
  rw [fewN, decide_eq_true h, Bool.true_and, List.all_eq_true]
  exact fun e he => decide_eq_true (ha e he)
theorem fewN_of {log : List Ev} (h : fewN log = true) : log.length ≤ 6 ∧ ∀ e ∈ log, fewX e := by
  rw [fewN, Bool.and_eq_true, decide_eq_true_eq, List.all_eq_true] at h
  exact ⟨h.1, fun e he => of_decide_eq_true (h.2 e he)⟩
theorem fewX.ok {e : Ev} (h : fewX e) : evOk e := by unfold fewX at h; unfold evOk; omega

set_option maxRecDepth 8000 in
set_option maxHeartbeats 1000000 in
theorem fewN_c {S M} (w : World) (hst : St S M w) (vl : Value) (log : List Ev) (hl : RSl S vl log) (hm : log.length ≤ 1048576) :
    Rets Tryd.prog 10 [vl] w fun v w' => v = .bool (fewN log) ∧ St S M w' := by
  unfold Rets
  have hl1 := hl.oneCell
  by_cases h10 : 6 < log.length
  · have hE := Lib.hid (fewN_big h10)
    go_enter Tryd.func10, Tryd.ntmps10
    repeat' (first | ((fail_if_success (go_big_may)); (go_step)) | (((with_reducible refine Sl.k_call ?_; (refine s_qt hst (by exact qt_len evX asX inX) ?_))) <;> (try refine nY ?_)) | (with_reducible refine Sl.gate rfl ?_; (go_step)))
    go_ret
    exact ⟨_, rfl, by rw [hE.out]; rfl, hst⟩
  · go_enter Tryd.func10, Tryd.ntmps10
    repeat' (first | ((fail_if_success (go_big_may)); (go_step)) | (((with_reducible refine Sl.k_call ?_; (refine s_qt hst (by exact qt_len evX asX inX) ?_))) <;> (try refine nY ?_)) | (with_reducible refine Sl.gate rfl ?_; (go_step)))
    go_loopw [3] (fun v wr => ∃ i : Nat, i ≤ log.length ∧ v = .int .i64 i ∧ Hid (∀ e ∈ log.take i, fewX e) ∧ St S M wr) (fun v _ => log.length - (intOf v).toNat)
    case atStart => exact ⟨0, Nat.zero_le _, rfl, Lib.hid (by simp), hst⟩
    case round =>
      clear hst
      obtain ⟨i, hi, rfl, ht, hst⟩ := hrel
      by_cases hlt : i < log.length
      · have hN := Lib.hid (fun h => fewN_no (log := log) hlt h)
        repeat' (first | (((with_reducible refine Sl.k_guard ?_; (first | (refine Sl.guard_yes rfl ?_) | (refine Sl.guard_no rfl ?_) | (refine Sl.guard_cases rfl ?_ ?_ <;> intro hg <;> (simp only [hg, Bool.not_true, Bool.not_false])) <;> (try simp only [decide_eq_true_eq, decide_eq_false_iff_not, Bool.not_false, Bool.not_true, beq_iff_eq, beq_eq_false_iff_ne, bne_iff_ne, bne_eq_false_iff_eq, ne_eq] at hg)))) <;> (try refine nY ?_)) | ((fail_if_success (go_big_may)); (go_step)) | ((first | (with_reducible refine Sl.k_load ?_; ((refine s_ex hst (qt_ldp_list evX asX inX) ?_; rintro v ⟨hvl, hv1⟩))) | (with_reducible refine Sl.k_field ?_; (((refine s_ex hst (qt_fieldp evX asX inX inX rfl) ?_); rintro v hp; (try simp only [Int.toNat_natCast, Int.toNat_natCast_add_one, Int.reduceToNat] at hp)))) | (with_reducible refine Sl.k_index ?_; (((refine s_ex hst (qt_index evX asX rfl inX inX omX omX) ?_); rintro v hp; (try simp only [Int.toNat_natCast, Int.toNat_natCast_add_one, Int.reduceToNat] at hp)))) | (with_reducible refine Sl.k_call ?_; (refine s_qt hst (by exact qt_len evX asX inX) ?_))) <;> (try refine nY ?_)) | (with_reducible refine Sl.gate rfl ?_; (go_step)))
        all_goals first
          | (go_ret; exact ⟨_, rfl, by rw [hN.out (by unfold fewX; omega)]; rfl, hst⟩)
          | (go_roundw; case rel => exact ⟨i + 1, by omega, by go_num, Lib.hid (fun e he => by
              rw [List.take_succ_eq_append_getElem hlt] at he
              rcases List.mem_append.1 he with h | h
              · exact ht.out e h
              · obtain rfl := List.mem_singleton.1 h; unfold fewX; omega), hst⟩
             case measure => simp [intOf]; omega)
      · have hE : Hid (fewN log = true) := Lib.hid (fewN_yes (by omega) (by have := ht.out; rwa [List.take_of_length_le (by omega)] at this))
        repeat' (first | ((fail_if_success (go_big_may)); (go_step)) | (((with_reducible refine Sl.k_call ?_; (refine s_qt hst (by exact qt_len evX asX inX) ?_))) <;> (try refine nY ?_)) | (with_reducible refine Sl.gate rfl ?_; (go_step)))
        go_ret
        exact ⟨_, rfl, by rw [hE.out]; rfl, hst⟩
end Go.Proofs.YtgihhhdeoaplhaaDoor

/- Package evidence: the examples of the law's sanity function: plain facts. -/
namespace Go.Proofs.YtgihhhdeoaplhaaDoor
set_option linter.unusedSimpArgs false
set_option linter.unusedVariables false
open Go.RowKit Go.Sl

def digKs {α : Type} (tag : Int) (parts : List (List UInt8)) (k : List UInt8 → α) : α := hashK (UInt8.ofNat tag.toNat :: joinB parts) fun h => fzBs (h.take 16) k
theorem digKs_eq {α : Type} (tag : Int) (parts : List (List UInt8)) (k : List UInt8 → α) : digKs tag parts k = k (dig tag parts) := by
  rw [digKs, hashK_eq, fzBs_eq]; rfl
def d1s : Dg := ⟨[1, 0, 0, 0, 0, 0, 0, 0, 0, 0, 0, 0, 0, 0, 0, 0]⟩
def d2s : Dg := ⟨[2, 0, 0, 0, 0, 0, 0, 0, 0, 0, 0, 0, 0, 0, 0, 0]⟩
def d9s : Dg := ⟨[9, 0, 0, 0, 0, 0, 0, 0, 0, 0, 0, 0, 0, 0, 0, 0]⟩
def evA : Ev := (d1s, [1], [1, 0, 3], [5], 0, ())
def evC : Ev := (d2s, [], [2], [], 4, ())
def logS : List Ev := [evA, evC]
def ptA (took : Int) : Pn := (0, 2, took, proofM (lvM evA) 2, ())
def ptC : Pn := (1, 0, 2, proofM (lvM evC) 0, ())
theorem mkS1 : mkF logS [] [(0, 2), (1, 0)] = some [ptA 3, ptC] := by
  simp [mkF, logS, evA, evC, ptA, ptC]
theorem mkS2 : mkF logS [] [(0, 3)] = none := by simp [mkF, logS, evA, evC]
theorem mkS3 : mkF logS [] [(1, 0), (1, 0)] = none := by simp [mkF, logS, evA, evC]
theorem ckS1 : ckF (logS.map headM) [] [ptA 3, ptC] = 0 := mk_ck (log := logS) (by decide) [(0, 2), (1, 0)] [] _ mkS1
theorem lvS : lvM evA = [leafP 0 1, leafP 1 0, leafP 2 3] := rfl
theorem root3s (a b c : Dg) : rootM [a, b, c] = nodeM (nodeM (leafM a) (leafM b)) (leafM c) := rfl
theorem proof3s (a b c : Dg) : proofM [a, b, c] 2 = [nodeM (leafM a) (leafM b)] := rfl
set_option maxRecDepth 1000000 in
theorem verS : verifyM (headM evA).2.2.2.1 (headM evA).2.2.1.toNat 2 (leafP 2 1) (proofM (lvM evA) 2) = false := by
  have e : nodeM (nodeM (leafM (leafP 0 1)) (leafM (leafP 1 0))) (leafM (leafP 2 1)) ≠ nodeM (nodeM (leafM (leafP 0 1)) (leafM (leafP 1 0))) (leafM (leafP 2 3)) := by
    have h : (digKs 10 [encI 0, encI 1] fun a => digKs 10 [encI 1, encI 0] fun b => digKs 10 [encI 2, encI 1] fun c => digKs 10 [encI 2, encI 3] fun d => digKs 1 [a] fun a => digKs 1 [b] fun b => digKs 1 [c] fun c => digKs 1 [d] fun d => digKs 2 [a, b] fun p => digKs 2 [p, c] fun x => digKs 2 [p, d] fun y => decide (x ≠ y)) = true := by decide +kernel
    simp only [digKs_eq] at h
    intro e
    have e' := congrArg Arr.l e
    simp only [nodeM, leafM, leafP] at e'
    exact of_decide_eq_true h e'
  have hl : lvM evA = [leafP 0 1, leafP 1 0, leafP 2 3] := lvS
  have r : (headM evA).2.2.2.1 = rootM (lvM evA) := rfl
  have n3 : (headM evA).2.2.1.toNat = 3 := rfl
  rw [r, n3, hl, root3s, proof3s]
  generalize leafP 0 1 = x at *
  generalize leafP 1 0 = y at *
  generalize leafP 2 1 = z at *
  generalize leafP 2 3 = t at *
  have h : foldV (sidesM 3 2) z [nodeM (leafM x) (leafM y)] = nodeM (nodeM (leafM x) (leafM y)) (leafM z) := rfl
  rw [verifyM, h, decide_eq_false e]
  rfl
theorem ckS2 : ckF (logS.map headM) [] [ptA 1, ptC] = 16 := by
  have h0 : (logS.map headM)[(0 : Int).toNat]? = some (headM evA) := rfl
  have h3 : (headM evA).2.2.1 = 3 := rfl
  rw [ckF, if_neg (by simp [ptA, logS])]
  show (match (logS.map headM)[(0 : Int).toNat]? with | none => 1 | some h => _) = 16
  rw [h0]
  show (if (2 : Int) < 0 ∨ (headM evA).2.2.1 ≤ 2 then 1 else if verifyM (headM evA).2.2.2.1 (headM evA).2.2.1.toNat (2 : Int).toNat (leafP 2 1) (proofM (lvM evA) 2) then _ else 16) = 16
  rw [if_neg (by rw [h3]; decide)]
  have := verS
  rw [show (2 : Int).toNat = 2 from rfl, this]
  rfl
theorem ckS3 : ckF ((logS.map headM).take 1) [] [ptA 3, ptC] = 1 := by
  have h0 : ((logS.map headM).take 1)[(0 : Int).toNat]? = some (headM evA) := rfl
  have h3 : (headM evA).2.2.1 = 3 := rfl
  have hv : verifyM (headM evA).2.2.2.1 (headM evA).2.2.1.toNat (2 : Int).toNat (leafP 2 3) (proofM (lvM evA) 2) = true := point_ok (e := evA) (k := 2) (by decide) (by decide)
  rw [ckF, if_neg (by simp [ptA, logS])]
  show (match ((logS.map headM).take 1)[(0 : Int).toNat]? with | none => 1 | some h => _) = 1
  rw [h0]
  show (if (2 : Int) < 0 ∨ (headM evA).2.2.1 ≤ 2 then 1 else if verifyM (headM evA).2.2.2.1 (headM evA).2.2.1.toNat (2 : Int).toNat (leafP 2 3) (proofM (lvM evA) 2) then ckF ((logS.map headM).take 1) [(0, 2)] [ptC] else 16) = 1
  rw [if_neg (by rw [h3]; decide)]
  rw [hv, if_pos rfl, ckF, if_pos (by simp [ptC, logS])]
set_option maxRecDepth 1000000 in
theorem regS : regE d9s ((logS.map headM).take 1) ≠ regE d9s (logS.map headM) := by
  have h : (digKs 7 [encI 1, d9s.l] fun s => digKs 11 [encL [1]] fun a => digKs 9 [s, a] fun x => digKs 11 [encL []] fun b => digKs 9 [x, b] fun y => decide (x ≠ y)) = true := by decide +kernel
  simp only [digKs_eq] at h
  intro e
  exact of_decide_eq_true h (congrArg (fun r : Rg => r.2.1.l) e)
end Go.Proofs.YtgihhhdeoaplhaaDoor

/- Package evidence: the law's example log, walked. -/
--@u32
--@hgp
--@flat
--@dg
--@ex0
namespace Go.Proofs.YtgihhhdeoaplhaaDoor
set_option linter.unusedSimpArgs false
set_option linter.unusedVariables false
open Go.RowKit Go.Sl

def evZero : Ev := (dg0, [], [], [], 0, ())
theorem nil_rE {α : Type} [Rep α] {S : Snap} : Rep.R S [.slice none 0 0] ([] : List α) := ⟨_, rfl, .inl ⟨none, 0, rfl, rfl, by unfold maxLen; omega⟩⟩
theorem r_evZ {S : Snap} : Rep.R S (u8s dg0.l ++ ([.slice none 0 0] ++ ([.slice none 0 0] ++ ([.slice none 0 0] ++ ([.int .i64 0] ++ []))))) evZero :=
  prod_mk (r_dgx rfl) (prod_mk nil_rE (prod_mk nil_rE (prod_mk nil_rE (prod_mk (cs := [_]) ⟨rfl, by unfold I64; exact ⟨by decide, by decide⟩⟩ unit_mk))))
theorem r_listE {S : Snap} {u : Value} {xs : List Int} (h : RSl S u xs) : Rep.R S u.cells.toList xs := ⟨u, cells_one h.oneCell, h⟩
theorem i64_litE {n : Int} (h : -1000 ≤ n ∧ n ≤ 1000) : I64 n := by unfold I64; omega

set_option maxRecDepth 8000 in
set_option maxHeartbeats 2000000 in
theorem sample_f {S M} (w : World) (hst : St S M w) : Rets Tryd.prog 26 [] w fun v w' => Fz Ev S M logS v w' := by
  unfold Rets
  go_enter Tryd.func26, Tryd.ntmps26
  repeat' (first | ((fail_if_success (go_big_may)); (go_step)) | (with_reducible refine Sl.gate rfl ?_; (go_step)))
  refine s_lit (vs := [.int .i64 1]) hst inX inX rfl rfl (by simp [Value.cells]) rfl (by omega) (by omega) ?_
  clear hst; intro u1 w hst
  obtain ⟨S1, hS1, hst, hu1⟩ := lit_ints [1] hst rfl (by intro x hx; obtain rfl := List.mem_singleton.1 hx; exact i64_litE (by decide)) rfl
  (try refine nY ?_)
  repeat' (fail)
  refine s_lit (vs := [.int .i64 1, .int .i64 0, .int .i64 3]) hst inX inX rfl rfl (by simp [Value.cells]) rfl (by omega) (by omega) ?_
  clear hst; intro u2 w hst
  obtain ⟨S2, hS2, hst, hu2⟩ := lit_ints [1, 0, 3] hst rfl (by intro x hx; simp only [List.mem_cons, List.not_mem_nil, or_false] at hx; rcases hx with rfl | rfl | rfl <;> exact i64_litE (by decide)) rfl
  (try refine nY ?_)
  repeat' (fail)
  refine s_lit (vs := [.int .i64 5]) hst inX inX rfl rfl (by simp [Value.cells]) rfl (by omega) (by omega) ?_
  clear hst; intro u3 w hst
  obtain ⟨S3, hS3, hst, hu3⟩ := lit_ints [5] hst rfl (by intro x hx; obtain rfl := List.mem_singleton.1 hx; exact i64_litE (by decide)) rfl
  (try refine nY ?_)
  replace hu1 := hu1.mono (hS2.trans hS3)
  replace hu2 := hu2.mono hS3
  refine s_ex hst (qt_buildP (x' := evA) inX inX r_evZ (.cons (k := 0) (v := dgV d1s) (y := d1s) (r_dgx rfl) rfl (.cons (k := 1) (v := u1) (y := [1]) (r_listE hu1) rfl (.cons (k := 2) (v := u2) (y := [1, 0, 3]) (r_listE hu2) rfl (.cons (k := 3) (v := u3) (y := [5]) (r_listE hu3) rfl .nil))))) ?_
  rintro v ⟨clA, rfl, hclA⟩
  (try refine nY ?_)
  repeat' (first | ((fail_if_success (go_big_may)); (go_step)) | (with_reducible refine Sl.gate rfl ?_; (go_step)))
  refine s_lit (vs := [.int .i64 2]) hst inX inX rfl rfl (by simp [Value.cells]) rfl (by omega) (by omega) ?_
  clear hst; intro u4 w hst
  obtain ⟨S4, hS4, hst, hu4⟩ := lit_ints [2] hst rfl (by intro x hx; obtain rfl := List.mem_singleton.1 hx; exact i64_litE (by decide)) rfl
  (try refine nY ?_)
  refine s_ex hst (qt_buildP (x' := evC) inX inX r_evZ (.cons (k := 0) (v := dgV d2s) (y := d2s) (r_dgx rfl) rfl (.cons (k := 2) (v := u4) (y := [2]) (r_listE hu4) rfl (.cons (k := 4) (v := .int .i64 4) (y := (4 : Int)) ⟨rfl, i64_litE (by decide)⟩ rfl .nil)))) ?_
  rintro v ⟨clC, rfl, hclC⟩
  (try refine nY ?_)
  have hA20 : clA.length = 20 := Rep.len hclA
  have hC20 : clC.length = 20 := Rep.len hclC
  repeat' (fail)
  refine s_lit (vs := [.agg clA.toArray, .agg clC.toArray]) (cs := clA ++ clC) hst inX inX rfl rfl (by simp [Value.cells, hA20, hC20]) (by simp [Value.cells]) (by omega) (by omega) ?_
  clear hst; intro u5 w hst
  obtain ⟨S5, hS5, hst, hu5⟩ := St.freeze (α := Ev) (xs := logS) hst ((RL.one_mk (Rep.mono hS4 hclA)).append (RL.one_mk hclC)) rfl
  have h15 := hu5.oneCell
  (try refine nY ?_)
  repeat' (((fail_if_success (go_big_may)); (go_step)))
  go_ret
  exact ⟨_, rfl, S5, (((hS1.trans hS2).trans hS3).trans hS4).trans hS5, hu5, h15, hst⟩
end Go.Proofs.YtgihhhdeoaplhaaDoor

/- Package evidence: what Make answers, in one word. -/
--@u32
--@hgp
--@flat
--@dg
--@ex0
namespace Go.Proofs.YtgihhhdeoaplhaaDoor
set_option linter.unusedSimpArgs false
set_option linter.unusedVariables false
open Go.RowKit Go.Sl

theorem hd_okR {S : Snap} {cs : List Value} {y : Hd} (hR : Rep.R S cs y) : HdOk y := ⟨hR.2.1.1, hR.2.2.2.1.1, hR.2.2.2.2.2.1.2, hR.2.2.2.2.2.2.2.1.1, hR.2.2.2.2.2.2.2.2.2.1.1, hR.2.2.2.2.2.2.2.2.2.2.2.1.2⟩
def mkR (m : Dg) (log : List Ev) (rv : List (Int × Int)) : Evd := match mkF log [] rv with
  | none => (dg0, [], [], ())
  | some ps => (m, log.map headM, ps, ())
def mkE (log : List Ev) (rv : List (Int × Int)) : Int := match mkF log [] rv with
  | none => 1
  | some _ => 0
def MkU (S : Snap) (M : List Chunk) (m : Dg) (log : List Ev) (rv : List (Int × Int)) (v : Value) (w : World) : Prop :=
  ∃ S' cs, S.Le S' ∧ v = .tuple #[.agg cs.toArray, .int .i64 (mkE log rv)] ∧ Rep.R S' cs (mkR m log rv) ∧ St S' M w
theorem r_evZ0 {S : Snap} : Rep.R S evZ ((dg0, [], [], ()) : Evd) := prod_mk (cs := u8s dg0.l) (r_dgx rfl) (prod_mk (cs := [.slice none 0 0]) nil_rE (prod_mk (cs := [.slice none 0 0]) nil_rE unit_mk))
theorem makeP_U {S : Snap} {M : List Chunk} {m : Dg} {log : List Ev} {rv : List (Int × Int)} {v : Value} {w : World} (h : makeP S M m log rv v w) : MkU S M m log rv v w := by
  obtain ⟨S', hS, hst, h⟩ := h
  unfold MkU mkR mkE
  cases e : mkF log [] rv with
  | none =>
    rw [e] at h
    exact ⟨S', evZ, hS, h, r_evZ0, hst⟩
  | some ps =>
    rw [e] at h
    obtain ⟨cs, h1, h2⟩ := h
    exact ⟨S', cs, hS, h1, h2, hst⟩
theorem mkR_16 {m : Dg} (hm : m.l.length = 16) (log : List Ev) (rv : List (Int × Int)) : (mkR m log rv).1.l.length = 16 := by
  unfold mkR
  split
  · rfl
  · exact hm
theorem mkF_len {log : List Ev} : ∀ (rv bf : List (Int × Int)) (ps : List Pn), mkF log bf rv = some ps → ps.length = rv.length
  | [], _, ps, h => by simp only [mkF, Option.some.injEq] at h; subst h; rfl
  | r :: rs, bf, ps, h => by
    simp only [mkF] at h
    split at h
    · cases h
    · split at h
      · cases h
      · split at h
        · cases h
        · split at h
          · cases h
          · rename_i qs hq
            simp only [Option.some.injEq] at h
            subst h
            simp [mkF_len rs _ _ hq]
theorem mkF_pf {log : List Ev} : ∀ (rv bf : List (Int × Int)) (ps : List Pn), mkF log bf rv = some ps → ∀ p ∈ ps, ∃ e ∈ log, ∃ i, p.2.2.2.1 = proofM (lvM e) i
  | [], _, ps, h, p, hp => by simp only [mkF, Option.some.injEq] at h; subst h; cases hp
  | r :: rs, bf, ps, h, p, hp => by
    simp only [mkF] at h
    split at h
    · cases h
    · split at h
      · cases h
      · rename_i e he
        split at h
        · cases h
        · split at h
          · cases h
          · rename_i qs hq
            simp only [Option.some.injEq] at h
            subst h
            rcases List.mem_cons.1 hp with rfl | hp
            · exact ⟨e, List.mem_of_getElem? he, _, rfl⟩
            · exact mkF_pf rs _ _ hq p hp
theorem pt_okR {S : Snap} {cs : List Value} {y : Pn} (hR : Rep.R S cs y) : I64 y.1 ∧ I64 y.2.1 ∧ I64 y.2.2.1 := ⟨hR.2.1.2, hR.2.2.2.1.2, hR.2.2.2.2.2.1.2⟩
theorem evd_16 {S : Snap} {cs : List Value} {ev : Evd} (hR : Rep.R S cs ev) : ev.1.l.length = 16 := hR.2.1.1
theorem evd_hd {S : Snap} {cs : List Value} {ev : Evd} (hR : Rep.R S cs ev) : ∀ h ∈ ev.2.1, HdOk h := fun h hh => by
  obtain ⟨u, _, hu⟩ := hR.2.2.2.1
  obtain ⟨c, hc⟩ := rsl_rep hu h hh
  exact hd_okR hc
theorem evd_pt {S : Snap} {cs : List Value} {ev : Evd} (hR : Rep.R S cs ev) : ∀ p ∈ ev.2.2.1, I64 p.1 ∧ I64 p.2.1 ∧ I64 p.2.2.1 := fun h hh => by
  obtain ⟨u, _, hu⟩ := hR.2.2.2.2.2.1
  obtain ⟨c, hc⟩ := rsl_rep hu h hh
  exact pt_okR hc
theorem mkR_ok {S : Snap} {cs : List Value} {m : Dg} {log : List Ev} {rv : List (Int × Int)} (hlen : log.length ≤ 1000) (hok : ∀ e ∈ log, evOk e) (hrl : rv.length ≤ 1048576) (hR : Rep.R S cs (mkR m log rv)) : EvOk (mkR m log rv) := by
  have h1 := evd_hd hR
  have h2 := evd_pt hR
  unfold mkR at *
  cases e : mkF log [] rv with
  | none =>
    exact ⟨fun h hh => (by cases hh), fun h hh => (by cases hh), by simp, by simp⟩
  | some ps =>
    simp only [e] at h1 h2
    refine ⟨fun h hh => ⟨h1 h hh, ?_⟩, fun p hp => ⟨(h2 p hp).1, (h2 p hp).2.1, (h2 p hp).2.2, ?_⟩, by show (log.map headM).length ≤ 1048576; rw [List.length_map]; omega, by show ps.length ≤ 1048576; rw [mkF_len _ _ _ e]; exact hrl⟩
    · obtain ⟨x, hx, rfl⟩ := List.mem_map.1 hh
      obtain ⟨_, e2, _⟩ := hok x hx
      show (x.2.2.1.length : Int) ≤ 1000
      omega
    · obtain ⟨x, hx, i, e3⟩ := mkF_pf _ _ _ e p hp
      obtain ⟨_, e2, _⟩ := hok x hx
      rw [e3]
      have := proofM_cnt (lvM x) i
      rw [show (lvM x).length = x.2.2.1.length from leavesP_len _ _] at this
      omega
theorem makeU_c {S M} (w : World) (hst : St S M w) (hG : Glob S) (m : Dg) (hm : m.l.length = 16) (vl : Value) (log : List Ev) (hl : RSl S vl log) (hlen : log.length ≤ 1000) (hok : ∀ e ∈ log, evOk e) (vr : Value) (rv : List (Int × Int)) (hr : RSl S vr rv) (hrl : rv.length ≤ 1048576) :
    Rets Tryd.prog 11 [dgV m, vl, vr] w fun v w' => MkU S M m log rv v w' :=
  (make_c w hst hG m hm vl log hl hlen hok vr rv hr hrl).mono fun _ _ h => makeP_U h
end Go.Proofs.YtgihhhdeoaplhaaDoor

/- Package evidence: the law's sanity function, walked. -/
--@u32
--@hgp
--@flat
--@dg
--@ex0
namespace Go.Proofs.YtgihhhdeoaplhaaDoor
set_option linter.unusedSimpArgs false
set_option linter.unusedVariables false
open Go.RowKit Go.Sl

abbrev evS1 : Evd := (d9s, logS.map headM, [ptA 3, ptC], ())
theorem logS_ok : ∀ e ∈ logS, evOk e := fun e he => by
  simp only [logS, List.mem_cons, List.not_mem_nil, or_false] at he
  rcases he with rfl | rfl <;> exact ⟨by decide, by decide, by decide⟩
theorem make_some {S : Snap} {M : List Chunk} {m : Dg} {log : List Ev} {rv : List (Int × Int)} {v : Value} {w : World} {ps : List Pn} (h : makeP S M m log rv v w) (e : mkF log [] rv = some ps) :
    ∃ S' cs, S.Le S' ∧ v = .tuple #[.agg cs.toArray, .int .i64 0] ∧ Rep.R S' cs ((m, log.map headM, ps, ()) : Evd) ∧ St S' M w := by
  obtain ⟨S', hS, hst, h⟩ := h
  rw [e] at h
  obtain ⟨cs, h1, h2⟩ := h
  exact ⟨S', cs, hS, h1, h2, hst⟩
theorem make_none {S : Snap} {M : List Chunk} {m : Dg} {log : List Ev} {rv : List (Int × Int)} {v : Value} {w : World} (h : makeP S M m log rv v w) (e : mkF log [] rv = none) :
    v = .tuple #[.agg evZ.toArray, .int .i64 1] ∧ St S M w := by
  obtain ⟨S', hS, hst, h⟩ := h
  rw [e] at h
  exact ⟨h, St.weaken hS hst⟩
theorem makeS1_c {S M} (w : World) (hst : St S M w) (hG : Glob S) (vl : Value) (hl : RSl S vl logS) (vr : Value) (hr : RSl S vr ([(0, 2), (1, 0)] : List (Int × Int))) :
    Rets Tryd.prog 11 [dgV d9s, vl, vr] w fun v w' => ∃ S' cs, S.Le S' ∧ v = .tuple #[.agg cs.toArray, .int .i64 0] ∧ Rep.R S' cs evS1 ∧ St S' M w' :=
  (make_c w hst hG d9s rfl vl logS hl (by decide) logS_ok vr _ hr (by decide)).mono fun v w' h => make_some h mkS1
theorem makeS2_c {S M} (w : World) (hst : St S M w) (hG : Glob S) (vl : Value) (hl : RSl S vl logS) (vr : Value) (hr : RSl S vr ([(0, 3)] : List (Int × Int))) :
    Rets Tryd.prog 11 [dgV d9s, vl, vr] w fun v w' => v = .tuple #[.agg evZ.toArray, .int .i64 1] ∧ St S M w' :=
  (make_c w hst hG d9s rfl vl logS hl (by decide) logS_ok vr _ hr (by decide)).mono fun v w' h => make_none h mkS2
theorem makeS3_c {S M} (w : World) (hst : St S M w) (hG : Glob S) (vl : Value) (hl : RSl S vl logS) (vr : Value) (hr : RSl S vr ([(1, 0), (1, 0)] : List (Int × Int))) :
    Rets Tryd.prog 11 [dgV d9s, vl, vr] w fun v w' => v = .tuple #[.agg evZ.toArray, .int .i64 1] ∧ St S M w' :=
  (make_c w hst hG d9s rfl vl logS hl (by decide) logS_ok vr _ hr (by decide)).mono fun v w' h => make_none h mkS3
theorem rl_pairs {S : Snap} : ∀ {ps : List (Int × Int)}, (∀ p ∈ ps, I64 p.1 ∧ I64 p.2) → RL S (cF pairC ps) ps
  | [], _ => RL.nil
  | p :: ps, h => by
    have := (RL.one_mk (r_pair (S := S) (h p (.head _)).1 (h p (.head _)).2)).append (rl_pairs (S := S) (ps := ps) fun x hx => h x (.tail _ hx))
    simpa [cF, pairC] using this
theorem okPr {ps : List (Int × Int)} (h : ps.all (fun p => decide (-1000 ≤ p.1 ∧ p.1 ≤ 1000 ∧ -1000 ≤ p.2 ∧ p.2 ≤ 1000)) = true) : ∀ p ∈ ps, I64 p.1 ∧ I64 p.2 := fun p hp => by
  have := of_decide_eq_true (List.all_eq_true.1 h p hp)
  exact ⟨i64_litE ⟨this.1, this.2.1⟩, i64_litE ⟨this.2.2.1, this.2.2.2⟩⟩

instance key_rgE : Key Tryd.prog 40 Rg 3 := by
  refine key_struct (d := 2) Tryd.underlying40 (by kernel_rfl) (by kernel_rfl) ?_
  simp only [List.toList_toArray]
  haveI k2 : KeyFs Tryd.prog [] 32 Unit 0 := keyFs_nil
  exact keyFs_cons (d := 2) (d' := 2) rfl (by kernel_rfl) (kb := keyFs_cons (d := 2) (d' := 0) rfl (by kernel_rfl) (kb := k2))
instance eqt_rgE : EqTy Tryd.prog 40 := ⟨by kernel_rfl, by kernel_rfl, by kernel_rfl⟩
theorem headS_ok : ∀ h ∈ logS.map headM, HdOk h ∧ h.2.2.1 ≤ 1000 := fun h hh => by
  obtain ⟨e, he, rfl⟩ := List.mem_map.1 hh
  simp only [logS, List.mem_cons, List.not_mem_nil, or_false] at he
  rcases he with rfl | rfl
  · exact ⟨⟨rfl, dig_len _ _, i64_litE (by decide), rootM_len _, rootM_len _, i64_litE (by decide)⟩, by decide⟩
  · exact ⟨⟨rfl, dig_len _ _, i64_litE (by decide), rootM_len _, rootM_len _, i64_litE (by decide)⟩, by decide⟩
theorem ptS_ok (t : Int) (ht : -1000 ≤ t ∧ t ≤ 1000) : ∀ p ∈ [ptA t, ptC], I64 p.1 ∧ I64 p.2.1 ∧ I64 p.2.2.1 ∧ p.2.2.2.1.length ≤ 1048576 := fun p hp => by
  simp only [List.mem_cons, List.not_mem_nil, or_false] at hp
  rcases hp with rfl | rfl
  · exact ⟨i64_litE (show -1000 ≤ (0 : Int) ∧ (0 : Int) ≤ 1000 by decide), i64_litE (show -1000 ≤ (2 : Int) ∧ (2 : Int) ≤ 1000 by decide), i64_litE ht, Nat.le_trans (proofM_cnt _ _) (by decide)⟩
  · exact ⟨i64_litE (show -1000 ≤ (1 : Int) ∧ (1 : Int) ≤ 1000 by decide), i64_litE (show -1000 ≤ (0 : Int) ∧ (0 : Int) ≤ 1000 by decide), i64_litE (show -1000 ≤ (2 : Int) ∧ (2 : Int) ≤ 1000 by decide), Nat.le_trans (proofM_cnt _ _) (by decide)⟩
theorem ckE1_c {S M} (w : World) (hst : St S M w) (hG : Glob S) (cs : List Value) (hR : Rep.R S cs evS1) : Rets Tryd.prog 15 [.agg cs.toArray] w fun v w' => v = .int .i64 0 ∧ St S M w' :=
  (check_c w hst hG cs evS1 hR ⟨headS_ok, ptS_ok 3 (by decide), by decide, by decide⟩).mono fun v w' ⟨h, k⟩ => ⟨by rw [h, ckS1]; rfl, k⟩
theorem ckE2_c {S M} (w : World) (hst : St S M w) (hG : Glob S) (cs : List Value) (hR : Rep.R S cs ((d9s, logS.map headM, [ptA 1, ptC], ()) : Evd)) : Rets Tryd.prog 15 [.agg cs.toArray] w fun v w' => v = .int .i64 16 ∧ St S M w' :=
  (check_c w hst hG cs _ hR ⟨headS_ok, ptS_ok 1 (by decide), by decide, by decide⟩).mono fun v w' ⟨h, k⟩ => ⟨by rw [h, ckS2]; rfl, k⟩
theorem ckE3_c {S M} (w : World) (hst : St S M w) (hG : Glob S) (cs : List Value) (hR : Rep.R S cs ((d9s, (logS.map headM).take 1, [ptA 3, ptC], ()) : Evd)) : Rets Tryd.prog 15 [.agg cs.toArray] w fun v w' => v = .int .i64 1 ∧ St S M w' :=
  (check_c w hst hG cs _ hR ⟨fun h hh => headS_ok h (List.mem_of_mem_take hh), ptS_ok 3 (by decide), by decide, by decide⟩).mono fun v w' ⟨h, k⟩ => ⟨by rw [h, ckS3]; rfl, k⟩
theorem rgE1_c {S M} (w : World) (hst : St S M w) (hG : Glob S) (cs : List Value) (hR : Rep.R S cs evS1) : Rets Tryd.prog 17 [.agg cs.toArray] w fun v w' => v = rgV (regE d9s (logS.map headM)) ∧ St S M w' :=
  registers_c w hst hG cs evS1 hR rfl (fun h hh => (headS_ok h hh).1) (by decide)
theorem rgE3_c {S M} (w : World) (hst : St S M w) (hG : Glob S) (cs : List Value) (hR : Rep.R S cs ((d9s, (logS.map headM).take 1, [ptA 3, ptC], ()) : Evd)) : Rets Tryd.prog 17 [.agg cs.toArray] w fun v w' => v = rgV (regE d9s ((logS.map headM).take 1)) ∧ St S M w' :=
  registers_c w hst hG cs ((d9s, (logS.map headM).take 1, [ptA 3, ptC], ()) : Evd) hR rfl (fun h hh => (headS_ok h (List.mem_of_mem_take hh)).1) (by simp [logS])
theorem foS_c {S M} (w : World) (hst : St S M w) (hG : Glob S) (vl : Value) (hl : RSl S vl logS) : Rets Tryd.prog 20 [dgV d9s, vl] w fun v w' => v = rgV (regE d9s (logS.map headM)) ∧ St S M w' := by
  rw [regE_log]
  exact fold_c w hst hG d9s rfl vl logS hl (by decide) logS_ok
theorem evB_of {S : Snap} {cl : List Value} {hs : List Hd} {ps : List Pn} (h : Rep.R S cl ((d9s, hs, ps, ()) : Evd)) : ∃ u p, cl = evB 9 0 0 0 0 0 0 0 0 0 0 0 0 0 0 0 u p ∧ RSl S u hs ∧ RSl S p ps := by
  obtain ⟨hl, h1, hl2, ⟨u, e2, h2⟩, hl3, ⟨p, e3, h3⟩, h4⟩ := h
  refine ⟨u, p, ?_, h2, h3⟩
  have e1 : cl.take 16 = u8s d9s.l := flatArrB.flat h1
  have e4 : ((cl.drop 16).drop 1).drop 1 = [] := h4
  have a1 : cl = cl.take 16 ++ ((cl.drop 16).take 1 ++ (((cl.drop 16).drop 1).take 1 ++ ((cl.drop 16).drop 1).drop 1)) := by
    rw [List.take_append_drop, List.take_append_drop, List.take_append_drop]
  have e2' : (cl.drop 16).take 1 = [u] := e2
  have e3' : ((cl.drop 16).drop 1).take 1 = [p] := e3
  rw [a1, e1, e2', e3', e4]
  rfl
theorem rl_set0 {S : Snap} {c : List Value} {p q : Pn} {t : Int} (h : RL S c [p, q]) (ht : I64 t) : RL S (c.take 2 ++ [.int .i64 t] ++ c.drop 3) [((p.1, p.2.1, t, p.2.2.2.1, ()) : Pn), q] := by
  have hl : c.length = 8 := h.1
  match c, hl with
  | [x0, x1, x2, x3, x4, x5, x6, x7], _ =>
    have h0 : Rep.R S [x0, x1, x2, x3] p := h.2 0 p rfl
    have h1 : Rep.R S [x4, x5, x6, x7] q := h.2 1 q rfl
    obtain ⟨_, a0, _, a1, _, a2, _, a3, a4⟩ := h0
    have := (RL.one_mk (S := S) (cs := [x0, x1, .int .i64 t, x3]) (x := ((p.1, p.2.1, t, p.2.2.2.1, ()) : Pn)) (prod_mk (cs := [x0]) a0 (prod_mk (cs := [x1]) a1 (prod_mk (show Rep.R S [.int .i64 t] t from ⟨rfl, ht⟩) (prod_mk (cs := [x3]) a3 unit_mk))))).append (RL.one_mk h1)
    exact this

set_option maxRecDepth 60000 in
set_option maxHeartbeats 4000000 in
theorem esanity_c {S M} (w : World) (hst : St S M w) (hG : Glob S) : Rets Tryd.prog 9 [] w fun v w' => v = .bool true ∧ St S M w' := by
  unfold Rets
  go_enter Tryd.func9, Tryd.ntmps9
  repeat' ((fail_if_success (with_reducible show Code.wp _ (Code.region 2 _ _) _ _ _)); first | ((fail_if_success (go_big_may)); (go_step)) | (with_reducible refine Sl.gate rfl ?_; (go_step)) | ((((first | (with_reducible refine Sl.k_store ?_; (refine s_store hst rfl _ BoxIn.h inX evX rfl lenOk oneOk (by simp) ?_); clear hst; intro w hst) | (refine s_alloc hst inX ?_; clear hst; intro bk w hst)))) <;> (try refine nY ?_) <;> (try replace hst := nH hst)))
  rename Nat => bm
  refine v_join [12, 13, 14, 15, 16, 17, 11, 18, 19, 2, 3] (fun vs w => ∃ s12 s13 s14 s15 s16 s17 s11 s18 s19 s2 s3 : Value, vs = [s12, s13, s14, s15, s16, s17, s11, s18, s19, s2, s3] ∧ (∃ (S2 : Snap) (b : Nat) (cs : List Value), S.Le S2 ∧ s2 = .pointer (some ⟨b, 0, none⟩) ∧ s3 = .int .i64 0 ∧ Rep.R S2 cs evS1 ∧ St S2 (.box b cs 31 :: .box bm (u8s d9s.l) 23 :: M) w)) ?_ ?_
  rotate_left
  clear hst; rintro _ w ⟨s12, s13, s14, s15, s16, s17, s11, s18, s19, s2, s3, rfl, S2, b2, cs2, hS2, rfl, rfl, hR2, hst⟩; simp only [setMany_cons, setMany_nil]; (try refine nY ?_)
  rotate_left
  intro Q' hQ'
  refine v_begin hst (by kernel_rfl) ?_; clear hst; intro ops; (try refine nY ?_)
  (refine t_qt 0 rfl (by kernel_rfl) rfl rfl (by exact qt_loadA evX BoxIn.h inX rfX) ?_) <;> (try refine nY ?_)
  (refine t_qt 2 rfl (by kernel_rfl) rfl rfl (qt_buildA (cs := [.int .i64 0, .int .i64 2]) inX inX inX rfl) ?_) <;> (try refine nY ?_)
  (refine t_qt 3 rfl (by kernel_rfl) rfl rfl (qt_buildA (cs := [.int .i64 1, .int .i64 0]) inX inX inX rfl) ?_) <;> (try refine nY ?_)
  refine v_three 1 4 9 rfl rfl rfl (by kernel_rfl) ?_ ?_ ?_
  intro w hst K hK; refine s_call (sample_f w hst) inX rfl ?_; clear hst; rintro v1 w ⟨T1, hT1, hv1, hv11, hst⟩; (try refine nY ?_); (try replace hst := nH hst); refine v_next hK hst hT1 (Suf.refl _) ?_; clear hst hK K; (try clear w); (try refine nY ?_)
  refine v_two 4 9 rfl rfl (by kernel_rfl) ?_ ?_
  intro w hst K hK; refine s_lit (vs := [.agg #[.int .i64 0, .int .i64 2], .agg #[.int .i64 1, .int .i64 0]]) (cs := [.int .i64 0, .int .i64 2, .int .i64 1, .int .i64 0]) hst inX inX rfl rfl (by simp [Value.cells]) rfl (by omega) (by omega) ?_; clear hst; intro x4 w hst; obtain ⟨T4, hT4, hst, hx4⟩ := St.freeze (α := Int × Int) (xs := [(0, 2), (1, 0)]) hst (rl_pairs (ps := [(0, 2), (1, 0)]) (okPr (by decide))) rfl; (try refine nY ?_); (try replace hst := nH hst); refine v_next hK hst hT4 (Suf.refl _) ?_; clear hst hK K; (try clear w); (try refine nY ?_)
  refine v_two 5 9 rfl rfl (by kernel_rfl) ?_ ?_
  intro w hst K hK; refine s_call (makeS1_c w hst (by exact hG.mono (hT1.trans hT4)) v1 (by exact hv1.mono hT4) x4 (by exact hx4)) inX rfl ?_; clear hst; rintro v5 w ⟨T5, cs5, hT5, rfl, hR5, hst⟩; (try refine nY ?_); (try replace hst := nH hst); refine v_next hK hst hT5 (Suf.refl _) ?_; clear hst hK K; (try clear w); (try refine nY ?_)
  (refine t_qt 6 rfl (by kernel_rfl) rfl rfl (by exact qt_move evX) ?_) <;> (try refine nY ?_)
  (refine t_qt 7 rfl (by kernel_rfl) rfl rfl (by exact qt_extract rfl rfl) ?_) <;> (try refine nY ?_)
  (refine t_pure 8 rfl (by kernel_rfl) rfl rfl (fun _ _ => by exact qt_extract rfl rfl) ?_) <;> (try refine nY ?_)
  refine v_one 9 rfl (by kernel_rfl) ?_; intro w hst K hK; refine s_alloc hst inX ?_; clear hst; intro b9 w hst; (try refine nY ?_); (try replace hst := nH hst); refine v_next hK hst (Snap.Le.refl _) (Suf.cons (Suf.refl _)) ?_; clear hst hK K; (try clear w); (try refine nY ?_)
  refine v_one 10 rfl (by kernel_rfl) ?_; intro w hst K hK; refine s_stW0 hst rfl BoxIn.h inX (x0 := evS1) (cs := cs5) evX hR5 rfl ?_; clear hst; intro w hst; (try refine nY ?_); (try replace hst := nH hst); refine v_last hK hst ?_; clear hst hK K; (try clear w); (try refine nY ?_)
  (refine t_qt 11 rfl (by kernel_rfl) rfl rfl (by exact qt_assign evX) ?_) <;> (try refine nY ?_)
  refine v_done (by kernel_rfl) ?_; clear ops; intro w hst; refine hQ' [_, _, _, _, _, _, _, _, _, _, _] w ⟨_, _, _, _, _, _, _, _, _, _, _, rfl, ?_⟩; (exact ⟨_, _, _, (hT1.trans hT4).trans hT5, rfl, rfl, hR5, hst⟩)
  intro w hst K hK; refine s_alloc hst inX ?_; clear hst; intro b9 w hst; (try refine nY ?_); (try replace hst := nH hst); refine v_next hK hst (Snap.Le.refl _) (Suf.cons (Suf.refl _)) ?_; clear hst hK K; (try clear w); (try refine nY ?_)
  refine v_one 5 rfl (by kernel_rfl) ?_; intro w hst K hK; refine s_call (makeS1_c w hst (by exact hG.mono (hT1.trans hT4)) v1 (by exact hv1.mono hT4) x4 (by exact hx4)) inX rfl ?_; clear hst; rintro v5 w ⟨T5, cs5, hT5, rfl, hR5, hst⟩; (try refine nY ?_); (try replace hst := nH hst); refine v_next hK hst hT5 (Suf.refl _) ?_; clear hst hK K; (try clear w); (try refine nY ?_)
  (refine t_qt 6 rfl (by kernel_rfl) rfl rfl (by exact qt_move evX) ?_) <;> (try refine nY ?_)
  (refine t_qt 7 rfl (by kernel_rfl) rfl rfl (by exact qt_extract rfl rfl) ?_) <;> (try refine nY ?_)
  (refine t_pure 8 rfl (by kernel_rfl) rfl rfl (fun _ _ => by exact qt_extract rfl rfl) ?_) <;> (try refine nY ?_)
  refine v_one 10 rfl (by kernel_rfl) ?_; intro w hst K hK; refine s_stW0 hst rfl BoxIn.h inX (x0 := evS1) (cs := cs5) evX hR5 rfl ?_; clear hst; intro w hst; (try refine nY ?_); (try replace hst := nH hst); refine v_last hK hst ?_; clear hst hK K; (try clear w); (try refine nY ?_)
  (refine t_qt 11 rfl (by kernel_rfl) rfl rfl (by exact qt_assign evX) ?_) <;> (try refine nY ?_)
  refine v_done (by kernel_rfl) ?_; clear ops; intro w hst; refine hQ' [_, _, _, _, _, _, _, _, _, _, _] w ⟨_, _, _, _, _, _, _, _, _, _, _, rfl, ?_⟩; (exact ⟨_, _, _, (hT1.trans hT4).trans hT5, rfl, rfl, hR5, hst⟩)
  intro w hst K hK; refine s_alloc hst inX ?_; clear hst; intro b9 w hst; (try refine nY ?_); (try replace hst := nH hst); refine v_next hK hst (Snap.Le.refl _) (Suf.cons (Suf.refl _)) ?_; clear hst hK K; (try clear w); (try refine nY ?_)
  refine v_one 4 rfl (by kernel_rfl) ?_; intro w hst K hK; refine s_lit (vs := [.agg #[.int .i64 0, .int .i64 2], .agg #[.int .i64 1, .int .i64 0]]) (cs := [.int .i64 0, .int .i64 2, .int .i64 1, .int .i64 0]) hst inX inX rfl rfl (by simp [Value.cells]) rfl (by omega) (by omega) ?_; clear hst; intro x4 w hst; obtain ⟨T4, hT4, hst, hx4⟩ := St.freeze (α := Int × Int) (xs := [(0, 2), (1, 0)]) hst (rl_pairs (ps := [(0, 2), (1, 0)]) (okPr (by decide))) rfl; (try refine nY ?_); (try replace hst := nH hst); refine v_next hK hst hT4 (Suf.refl _) ?_; clear hst hK K; (try clear w); (try refine nY ?_)
  refine v_one 5 rfl (by kernel_rfl) ?_; intro w hst K hK; refine s_call (makeS1_c w hst (by exact hG.mono (hT1.trans hT4)) v1 (by exact hv1.mono hT4) x4 (by exact hx4)) inX rfl ?_; clear hst; rintro v5 w ⟨T5, cs5, hT5, rfl, hR5, hst⟩; (try refine nY ?_); (try replace hst := nH hst); refine v_next hK hst hT5 (Suf.refl _) ?_; clear hst hK K; (try clear w); (try refine nY ?_)
  (refine t_qt 6 rfl (by kernel_rfl) rfl rfl (by exact qt_move evX) ?_) <;> (try refine nY ?_)
  (refine t_qt 7 rfl (by kernel_rfl) rfl rfl (by exact qt_extract rfl rfl) ?_) <;> (try refine nY ?_)
  (refine t_pure 8 rfl (by kernel_rfl) rfl rfl (fun _ _ => by exact qt_extract rfl rfl) ?_) <;> (try refine nY ?_)
  refine v_one 10 rfl (by kernel_rfl) ?_; intro w hst K hK; refine s_stW0 hst rfl BoxIn.h inX (x0 := evS1) (cs := cs5) evX hR5 rfl ?_; clear hst; intro w hst; (try refine nY ?_); (try replace hst := nH hst); refine v_last hK hst ?_; clear hst hK K; (try clear w); (try refine nY ?_)
  (refine t_qt 11 rfl (by kernel_rfl) rfl rfl (by exact qt_assign evX) ?_) <;> (try refine nY ?_)
  refine v_done (by kernel_rfl) ?_; clear ops; intro w hst; refine hQ' [_, _, _, _, _, _, _, _, _, _, _] w ⟨_, _, _, _, _, _, _, _, _, _, _, rfl, ?_⟩; (exact ⟨_, _, _, (hT1.trans hT4).trans hT5, rfl, rfl, hR5, hst⟩)
  intro w hst K hK; refine s_lit (vs := [.agg #[.int .i64 0, .int .i64 2], .agg #[.int .i64 1, .int .i64 0]]) (cs := [.int .i64 0, .int .i64 2, .int .i64 1, .int .i64 0]) hst inX inX rfl rfl (by simp [Value.cells]) rfl (by omega) (by omega) ?_; clear hst; intro x4 w hst; obtain ⟨T4, hT4, hst, hx4⟩ := St.freeze (α := Int × Int) (xs := [(0, 2), (1, 0)]) hst (rl_pairs (ps := [(0, 2), (1, 0)]) (okPr (by decide))) rfl; (try refine nY ?_); (try replace hst := nH hst); refine v_next hK hst hT4 (Suf.refl _) ?_; clear hst hK K; (try clear w); (try refine nY ?_)
  refine v_two 1 9 rfl rfl (by kernel_rfl) ?_ ?_
  intro w hst K hK; refine s_call (sample_f w hst) inX rfl ?_; clear hst; rintro v1 w ⟨T1, hT1, hv1, hv11, hst⟩; (try refine nY ?_); (try replace hst := nH hst); refine v_next hK hst hT1 (Suf.refl _) ?_; clear hst hK K; (try clear w); (try refine nY ?_)
  refine v_two 5 9 rfl rfl (by kernel_rfl) ?_ ?_
  intro w hst K hK; refine s_call (makeS1_c w hst (by exact hG.mono (hT4.trans hT1)) v1 (by exact hv1) x4 (by exact hx4.mono hT1)) inX rfl ?_; clear hst; rintro v5 w ⟨T5, cs5, hT5, rfl, hR5, hst⟩; (try refine nY ?_); (try replace hst := nH hst); refine v_next hK hst hT5 (Suf.refl _) ?_; clear hst hK K; (try clear w); (try refine nY ?_)
  (refine t_qt 6 rfl (by kernel_rfl) rfl rfl (by exact qt_move evX) ?_) <;> (try refine nY ?_)
  (refine t_qt 7 rfl (by kernel_rfl) rfl rfl (by exact qt_extract rfl rfl) ?_) <;> (try refine nY ?_)
  (refine t_pure 8 rfl (by kernel_rfl) rfl rfl (fun _ _ => by exact qt_extract rfl rfl) ?_) <;> (try refine nY ?_)
  refine v_one 9 rfl (by kernel_rfl) ?_; intro w hst K hK; refine s_alloc hst inX ?_; clear hst; intro b9 w hst; (try refine nY ?_); (try replace hst := nH hst); refine v_next hK hst (Snap.Le.refl _) (Suf.cons (Suf.refl _)) ?_; clear hst hK K; (try clear w); (try refine nY ?_)
  refine v_one 10 rfl (by kernel_rfl) ?_; intro w hst K hK; refine s_stW0 hst rfl BoxIn.h inX (x0 := evS1) (cs := cs5) evX hR5 rfl ?_; clear hst; intro w hst; (try refine nY ?_); (try replace hst := nH hst); refine v_last hK hst ?_; clear hst hK K; (try clear w); (try refine nY ?_)
  (refine t_qt 11 rfl (by kernel_rfl) rfl rfl (by exact qt_assign evX) ?_) <;> (try refine nY ?_)
  refine v_done (by kernel_rfl) ?_; clear ops; intro w hst; refine hQ' [_, _, _, _, _, _, _, _, _, _, _] w ⟨_, _, _, _, _, _, _, _, _, _, _, rfl, ?_⟩; (exact ⟨_, _, _, (hT4.trans hT1).trans hT5, rfl, rfl, hR5, hst⟩)
  intro w hst K hK; refine s_alloc hst inX ?_; clear hst; intro b9 w hst; (try refine nY ?_); (try replace hst := nH hst); refine v_next hK hst (Snap.Le.refl _) (Suf.cons (Suf.refl _)) ?_; clear hst hK K; (try clear w); (try refine nY ?_)
  refine v_one 5 rfl (by kernel_rfl) ?_; intro w hst K hK; refine s_call (makeS1_c w hst (by exact hG.mono (hT4.trans hT1)) v1 (by exact hv1) x4 (by exact hx4.mono hT1)) inX rfl ?_; clear hst; rintro v5 w ⟨T5, cs5, hT5, rfl, hR5, hst⟩; (try refine nY ?_); (try replace hst := nH hst); refine v_next hK hst hT5 (Suf.refl _) ?_; clear hst hK K; (try clear w); (try refine nY ?_)
  (refine t_qt 6 rfl (by kernel_rfl) rfl rfl (by exact qt_move evX) ?_) <;> (try refine nY ?_)
  (refine t_qt 7 rfl (by kernel_rfl) rfl rfl (by exact qt_extract rfl rfl) ?_) <;> (try refine nY ?_)
  (refine t_pure 8 rfl (by kernel_rfl) rfl rfl (fun _ _ => by exact qt_extract rfl rfl) ?_) <;> (try refine nY ?_)
  refine v_one 10 rfl (by kernel_rfl) ?_; intro w hst K hK; refine s_stW0 hst rfl BoxIn.h inX (x0 := evS1) (cs := cs5) evX hR5 rfl ?_; clear hst; intro w hst; (try refine nY ?_); (try replace hst := nH hst); refine v_last hK hst ?_; clear hst hK K; (try clear w); (try refine nY ?_)
  (refine t_qt 11 rfl (by kernel_rfl) rfl rfl (by exact qt_assign evX) ?_) <;> (try refine nY ?_)
  refine v_done (by kernel_rfl) ?_; clear ops; intro w hst; refine hQ' [_, _, _, _, _, _, _, _, _, _, _] w ⟨_, _, _, _, _, _, _, _, _, _, _, rfl, ?_⟩; (exact ⟨_, _, _, (hT4.trans hT1).trans hT5, rfl, rfl, hR5, hst⟩)
  intro w hst K hK; refine s_alloc hst inX ?_; clear hst; intro b9 w hst; (try refine nY ?_); (try replace hst := nH hst); refine v_next hK hst (Snap.Le.refl _) (Suf.cons (Suf.refl _)) ?_; clear hst hK K; (try clear w); (try refine nY ?_)
  refine v_one 1 rfl (by kernel_rfl) ?_; intro w hst K hK; refine s_call (sample_f w hst) inX rfl ?_; clear hst; rintro v1 w ⟨T1, hT1, hv1, hv11, hst⟩; (try refine nY ?_); (try replace hst := nH hst); refine v_next hK hst hT1 (Suf.refl _) ?_; clear hst hK K; (try clear w); (try refine nY ?_)
  refine v_one 5 rfl (by kernel_rfl) ?_; intro w hst K hK; refine s_call (makeS1_c w hst (by exact hG.mono (hT4.trans hT1)) v1 (by exact hv1) x4 (by exact hx4.mono hT1)) inX rfl ?_; clear hst; rintro v5 w ⟨T5, cs5, hT5, rfl, hR5, hst⟩; (try refine nY ?_); (try replace hst := nH hst); refine v_next hK hst hT5 (Suf.refl _) ?_; clear hst hK K; (try clear w); (try refine nY ?_)
  (refine t_qt 6 rfl (by kernel_rfl) rfl rfl (by exact qt_move evX) ?_) <;> (try refine nY ?_)
  (refine t_qt 7 rfl (by kernel_rfl) rfl rfl (by exact qt_extract rfl rfl) ?_) <;> (try refine nY ?_)
  (refine t_pure 8 rfl (by kernel_rfl) rfl rfl (fun _ _ => by exact qt_extract rfl rfl) ?_) <;> (try refine nY ?_)
  refine v_one 10 rfl (by kernel_rfl) ?_; intro w hst K hK; refine s_stW0 hst rfl BoxIn.h inX (x0 := evS1) (cs := cs5) evX hR5 rfl ?_; clear hst; intro w hst; (try refine nY ?_); (try replace hst := nH hst); refine v_last hK hst ?_; clear hst hK K; (try clear w); (try refine nY ?_)
  (refine t_qt 11 rfl (by kernel_rfl) rfl rfl (by exact qt_assign evX) ?_) <;> (try refine nY ?_)
  refine v_done (by kernel_rfl) ?_; clear ops; intro w hst; refine hQ' [_, _, _, _, _, _, _, _, _, _, _] w ⟨_, _, _, _, _, _, _, _, _, _, _, rfl, ?_⟩; (exact ⟨_, _, _, (hT4.trans hT1).trans hT5, rfl, rfl, hR5, hst⟩)
  intro w hst K hK; refine s_alloc hst inX ?_; clear hst; intro b9 w hst; (try refine nY ?_); (try replace hst := nH hst); refine v_next hK hst (Snap.Le.refl _) (Suf.cons (Suf.refl _)) ?_; clear hst hK K; (try clear w); (try refine nY ?_)
  refine v_two 1 4 rfl rfl (by kernel_rfl) ?_ ?_
  intro w hst K hK; refine s_call (sample_f w hst) inX rfl ?_; clear hst; rintro v1 w ⟨T1, hT1, hv1, hv11, hst⟩; (try refine nY ?_); (try replace hst := nH hst); refine v_next hK hst hT1 (Suf.refl _) ?_; clear hst hK K; (try clear w); (try refine nY ?_)
  refine v_one 4 rfl (by kernel_rfl) ?_; intro w hst K hK; refine s_lit (vs := [.agg #[.int .i64 0, .int .i64 2], .agg #[.int .i64 1, .int .i64 0]]) (cs := [.int .i64 0, .int .i64 2, .int .i64 1, .int .i64 0]) hst inX inX rfl rfl (by simp [Value.cells]) rfl (by omega) (by omega) ?_; clear hst; intro x4 w hst; obtain ⟨T4, hT4, hst, hx4⟩ := St.freeze (α := Int × Int) (xs := [(0, 2), (1, 0)]) hst (rl_pairs (ps := [(0, 2), (1, 0)]) (okPr (by decide))) rfl; (try refine nY ?_); (try replace hst := nH hst); refine v_next hK hst hT4 (Suf.refl _) ?_; clear hst hK K; (try clear w); (try refine nY ?_)
  refine v_one 5 rfl (by kernel_rfl) ?_; intro w hst K hK; refine s_call (makeS1_c w hst (by exact hG.mono (hT1.trans hT4)) v1 (by exact hv1.mono hT4) x4 (by exact hx4)) inX rfl ?_; clear hst; rintro v5 w ⟨T5, cs5, hT5, rfl, hR5, hst⟩; (try refine nY ?_); (try replace hst := nH hst); refine v_next hK hst hT5 (Suf.refl _) ?_; clear hst hK K; (try clear w); (try refine nY ?_)
  (refine t_qt 6 rfl (by kernel_rfl) rfl rfl (by exact qt_move evX) ?_) <;> (try refine nY ?_)
  (refine t_qt 7 rfl (by kernel_rfl) rfl rfl (by exact qt_extract rfl rfl) ?_) <;> (try refine nY ?_)
  (refine t_pure 8 rfl (by kernel_rfl) rfl rfl (fun _ _ => by exact qt_extract rfl rfl) ?_) <;> (try refine nY ?_)
  refine v_one 10 rfl (by kernel_rfl) ?_; intro w hst K hK; refine s_stW0 hst rfl BoxIn.h inX (x0 := evS1) (cs := cs5) evX hR5 rfl ?_; clear hst; intro w hst; (try refine nY ?_); (try replace hst := nH hst); refine v_last hK hst ?_; clear hst hK K; (try clear w); (try refine nY ?_)
  (refine t_qt 11 rfl (by kernel_rfl) rfl rfl (by exact qt_assign evX) ?_) <;> (try refine nY ?_)
  refine v_done (by kernel_rfl) ?_; clear ops; intro w hst; refine hQ' [_, _, _, _, _, _, _, _, _, _, _] w ⟨_, _, _, _, _, _, _, _, _, _, _, rfl, ?_⟩; (exact ⟨_, _, _, (hT1.trans hT4).trans hT5, rfl, rfl, hR5, hst⟩)
  intro w hst K hK; refine s_lit (vs := [.agg #[.int .i64 0, .int .i64 2], .agg #[.int .i64 1, .int .i64 0]]) (cs := [.int .i64 0, .int .i64 2, .int .i64 1, .int .i64 0]) hst inX inX rfl rfl (by simp [Value.cells]) rfl (by omega) (by omega) ?_; clear hst; intro x4 w hst; obtain ⟨T4, hT4, hst, hx4⟩ := St.freeze (α := Int × Int) (xs := [(0, 2), (1, 0)]) hst (rl_pairs (ps := [(0, 2), (1, 0)]) (okPr (by decide))) rfl; (try refine nY ?_); (try replace hst := nH hst); refine v_next hK hst hT4 (Suf.refl _) ?_; clear hst hK K; (try clear w); (try refine nY ?_)
  refine v_one 1 rfl (by kernel_rfl) ?_; intro w hst K hK; refine s_call (sample_f w hst) inX rfl ?_; clear hst; rintro v1 w ⟨T1, hT1, hv1, hv11, hst⟩; (try refine nY ?_); (try replace hst := nH hst); refine v_next hK hst hT1 (Suf.refl _) ?_; clear hst hK K; (try clear w); (try refine nY ?_)
  refine v_one 5 rfl (by kernel_rfl) ?_; intro w hst K hK; refine s_call (makeS1_c w hst (by exact hG.mono (hT4.trans hT1)) v1 (by exact hv1) x4 (by exact hx4.mono hT1)) inX rfl ?_; clear hst; rintro v5 w ⟨T5, cs5, hT5, rfl, hR5, hst⟩; (try refine nY ?_); (try replace hst := nH hst); refine v_next hK hst hT5 (Suf.refl _) ?_; clear hst hK K; (try clear w); (try refine nY ?_)
  (refine t_qt 6 rfl (by kernel_rfl) rfl rfl (by exact qt_move evX) ?_) <;> (try refine nY ?_)
  (refine t_qt 7 rfl (by kernel_rfl) rfl rfl (by exact qt_extract rfl rfl) ?_) <;> (try refine nY ?_)
  (refine t_pure 8 rfl (by kernel_rfl) rfl rfl (fun _ _ => by exact qt_extract rfl rfl) ?_) <;> (try refine nY ?_)
  refine v_one 10 rfl (by kernel_rfl) ?_; intro w hst K hK; refine s_stW0 hst rfl BoxIn.h inX (x0 := evS1) (cs := cs5) evX hR5 rfl ?_; clear hst; intro w hst; (try refine nY ?_); (try replace hst := nH hst); refine v_last hK hst ?_; clear hst hK K; (try clear w); (try refine nY ?_)
  (refine t_qt 11 rfl (by kernel_rfl) rfl rfl (by exact qt_assign evX) ?_) <;> (try refine nY ?_)
  refine v_done (by kernel_rfl) ?_; clear ops; intro w hst; refine hQ' [_, _, _, _, _, _, _, _, _, _, _] w ⟨_, _, _, _, _, _, _, _, _, _, _, rfl, ?_⟩; (exact ⟨_, _, _, (hT4.trans hT1).trans hT5, rfl, rfl, hR5, hst⟩)
  have hst0 := hst
  clear hst
  obtain ⟨S3, hS3, hst, hpe⟩ := pt_box (α := Evd) hst0 hR2 (Rep.len hR2)
  clear hst0 hR2
  generalize Value.pointer (some ⟨b2, 0, none⟩) = pE at *
  replace hS3 := hS2.trans hS3
  clear hS2
  have hG3 := hG.mono hS3
  repeat' ((fail_if_success (with_reducible show Code.wp _ (Code.region 3 _ _) _ _ _)); ((fail_if_success (go_big_may)); (go_step)))
  refine v_join [21, 22, 23, 24, 25, 20, 26, 27, 4, 5] (fun vs w => ∃ s21 s22 s23 s24 s25 s20 s26 s27 s4 s5 : Value, vs = [s21, s22, s23, s24, s25, s20, s26, s27, s4, s5] ∧ (∃ (T : Snap), S3.Le T ∧ s5 = .int .i64 1 ∧ St T (.box bm (u8s d9s.l) 23 :: M) w)) ?_ ?_
  rotate_left
  clear hst; rintro _ w ⟨s21, s22, s23, s24, s25, s20, s26, s27, s4, s5, rfl, S4, hS4, rfl, hst⟩; simp only [setMany_cons, setMany_nil]; (try refine nY ?_)
  rotate_left
  intro Q' hQ'
  refine v_begin hst (by kernel_rfl) ?_; clear hst; intro ops; (try refine nY ?_)
  (refine t_qt 0 rfl (by kernel_rfl) rfl rfl (by exact qt_loadA evX BoxIn.h inX rfX) ?_) <;> (try refine nY ?_)
  (refine t_qt 2 rfl (by kernel_rfl) rfl rfl (qt_buildA (cs := [.int .i64 0, .int .i64 3]) inX inX inX rfl) ?_) <;> (try refine nY ?_)
  refine v_three 1 3 8 rfl rfl rfl (by kernel_rfl) ?_ ?_ ?_
  intro w hst K hK; refine s_call (sample_f w hst) inX rfl ?_; clear hst; rintro v1 w ⟨T1, hT1, hv1, hv11, hst⟩; (try refine nY ?_); (try replace hst := nH hst); refine v_next hK hst hT1 (Suf.refl _) ?_; clear hst hK K; (try clear w); (try refine nY ?_)
  refine v_two 3 8 rfl rfl (by kernel_rfl) ?_ ?_
  intro w hst K hK; refine s_lit (vs := [.agg #[.int .i64 0, .int .i64 3]]) (cs := [.int .i64 0, .int .i64 3]) hst inX inX rfl rfl (by simp [Value.cells]) rfl (by omega) (by omega) ?_; clear hst; intro x3 w hst; obtain ⟨T3, hT3, hst, hx3⟩ := St.freeze (α := Int × Int) (xs := [(0, 3)]) hst (rl_pairs (ps := [(0, 3)]) (okPr (by decide))) rfl; (try refine nY ?_); (try replace hst := nH hst); refine v_next hK hst hT3 (Suf.refl _) ?_; clear hst hK K; (try clear w); (try refine nY ?_)
  refine v_two 4 8 rfl rfl (by kernel_rfl) ?_ ?_
  intro w hst K hK; refine s_call (makeS2_c w hst (by exact hG3.mono (hT1.trans hT3)) v1 (by exact hv1.mono hT3) x3 (by exact hx3)) inX rfl ?_; clear hst; rintro v5 w ⟨rfl, hst⟩; (try refine nY ?_); (try replace hst := nH hst); refine v_next hK hst (Snap.Le.refl _) (Suf.refl _) ?_; clear hst hK K; (try clear w); (try refine nY ?_)
  (refine t_qt 5 rfl (by kernel_rfl) rfl rfl (by exact qt_move evX) ?_) <;> (try refine nY ?_)
  (refine t_qt 6 rfl (by kernel_rfl) rfl rfl (by exact qt_extract rfl rfl) ?_) <;> (try refine nY ?_)
  (refine t_pure 7 rfl (by kernel_rfl) rfl rfl (fun _ _ => by exact qt_extract rfl rfl) ?_) <;> (try refine nY ?_)
  refine v_one 8 rfl (by kernel_rfl) ?_; intro w hst K hK; refine s_alloc hst inX ?_; clear hst; intro b8 w hst; (try refine nY ?_); (try replace hst := nH hst); refine v_next hK hst (Snap.Le.refl _) (Suf.cons (Suf.refl _)) ?_; clear hst hK K; (try clear w); (try refine nY ?_)
  refine v_one 9 rfl (by kernel_rfl) ?_; intro w hst K hK; (refine s_store hst rfl _ BoxIn.h inX evX rfl lenOk oneOk (by simp <;> omega) ?_); clear hst; intro w hst; (try refine nY ?_); (try replace hst := nH hst); refine v_last hK hst ?_; clear hst hK K; (try clear w); (try refine nY ?_)
  (refine t_qt 10 rfl (by kernel_rfl) rfl rfl (by exact qt_assign evX) ?_) <;> (try refine nY ?_)
  refine v_done (by kernel_rfl) ?_; clear ops; intro w hst; refine hQ' [_, _, _, _, _, _, _, _, _, _] w ⟨_, _, _, _, _, _, _, _, _, _, rfl, ?_⟩; (exact ⟨_, hT1.trans hT3, rfl, hst.drop⟩)
  intro w hst K hK; refine s_alloc hst inX ?_; clear hst; intro b8 w hst; (try refine nY ?_); (try replace hst := nH hst); refine v_next hK hst (Snap.Le.refl _) (Suf.cons (Suf.refl _)) ?_; clear hst hK K; (try clear w); (try refine nY ?_)
  refine v_one 4 rfl (by kernel_rfl) ?_; intro w hst K hK; refine s_call (makeS2_c w hst (by exact hG3.mono (hT1.trans hT3)) v1 (by exact hv1.mono hT3) x3 (by exact hx3)) inX rfl ?_; clear hst; rintro v5 w ⟨rfl, hst⟩; (try refine nY ?_); (try replace hst := nH hst); refine v_next hK hst (Snap.Le.refl _) (Suf.refl _) ?_; clear hst hK K; (try clear w); (try refine nY ?_)
  (refine t_qt 5 rfl (by kernel_rfl) rfl rfl (by exact qt_move evX) ?_) <;> (try refine nY ?_)
  (refine t_qt 6 rfl (by kernel_rfl) rfl rfl (by exact qt_extract rfl rfl) ?_) <;> (try refine nY ?_)
  (refine t_pure 7 rfl (by kernel_rfl) rfl rfl (fun _ _ => by exact qt_extract rfl rfl) ?_) <;> (try refine nY ?_)
  refine v_one 9 rfl (by kernel_rfl) ?_; intro w hst K hK; (refine s_store hst rfl _ BoxIn.h inX evX rfl lenOk oneOk (by simp <;> omega) ?_); clear hst; intro w hst; (try refine nY ?_); (try replace hst := nH hst); refine v_last hK hst ?_; clear hst hK K; (try clear w); (try refine nY ?_)
  (refine t_qt 10 rfl (by kernel_rfl) rfl rfl (by exact qt_assign evX) ?_) <;> (try refine nY ?_)
  refine v_done (by kernel_rfl) ?_; clear ops; intro w hst; refine hQ' [_, _, _, _, _, _, _, _, _, _] w ⟨_, _, _, _, _, _, _, _, _, _, rfl, ?_⟩; (exact ⟨_, hT1.trans hT3, rfl, hst.drop⟩)
  intro w hst K hK; refine s_alloc hst inX ?_; clear hst; intro b8 w hst; (try refine nY ?_); (try replace hst := nH hst); refine v_next hK hst (Snap.Le.refl _) (Suf.cons (Suf.refl _)) ?_; clear hst hK K; (try clear w); (try refine nY ?_)
  refine v_one 3 rfl (by kernel_rfl) ?_; intro w hst K hK; refine s_lit (vs := [.agg #[.int .i64 0, .int .i64 3]]) (cs := [.int .i64 0, .int .i64 3]) hst inX inX rfl rfl (by simp [Value.cells]) rfl (by omega) (by omega) ?_; clear hst; intro x3 w hst; obtain ⟨T3, hT3, hst, hx3⟩ := St.freeze (α := Int × Int) (xs := [(0, 3)]) hst (rl_pairs (ps := [(0, 3)]) (okPr (by decide))) rfl; (try refine nY ?_); (try replace hst := nH hst); refine v_next hK hst hT3 (Suf.refl _) ?_; clear hst hK K; (try clear w); (try refine nY ?_)
  refine v_one 4 rfl (by kernel_rfl) ?_; intro w hst K hK; refine s_call (makeS2_c w hst (by exact hG3.mono (hT1.trans hT3)) v1 (by exact hv1.mono hT3) x3 (by exact hx3)) inX rfl ?_; clear hst; rintro v5 w ⟨rfl, hst⟩; (try refine nY ?_); (try replace hst := nH hst); refine v_next hK hst (Snap.Le.refl _) (Suf.refl _) ?_; clear hst hK K; (try clear w); (try refine nY ?_)
  (refine t_qt 5 rfl (by kernel_rfl) rfl rfl (by exact qt_move evX) ?_) <;> (try refine nY ?_)
  (refine t_qt 6 rfl (by kernel_rfl) rfl rfl (by exact qt_extract rfl rfl) ?_) <;> (try refine nY ?_)
  (refine t_pure 7 rfl (by kernel_rfl) rfl rfl (fun _ _ => by exact qt_extract rfl rfl) ?_) <;> (try refine nY ?_)
  refine v_one 9 rfl (by kernel_rfl) ?_; intro w hst K hK; (refine s_store hst rfl _ BoxIn.h inX evX rfl lenOk oneOk (by simp <;> omega) ?_); clear hst; intro w hst; (try refine nY ?_); (try replace hst := nH hst); refine v_last hK hst ?_; clear hst hK K; (try clear w); (try refine nY ?_)
  (refine t_qt 10 rfl (by kernel_rfl) rfl rfl (by exact qt_assign evX) ?_) <;> (try refine nY ?_)
  refine v_done (by kernel_rfl) ?_; clear ops; intro w hst; refine hQ' [_, _, _, _, _, _, _, _, _, _] w ⟨_, _, _, _, _, _, _, _, _, _, rfl, ?_⟩; (exact ⟨_, hT1.trans hT3, rfl, hst.drop⟩)
  intro w hst K hK; refine s_lit (vs := [.agg #[.int .i64 0, .int .i64 3]]) (cs := [.int .i64 0, .int .i64 3]) hst inX inX rfl rfl (by simp [Value.cells]) rfl (by omega) (by omega) ?_; clear hst; intro x3 w hst; obtain ⟨T3, hT3, hst, hx3⟩ := St.freeze (α := Int × Int) (xs := [(0, 3)]) hst (rl_pairs (ps := [(0, 3)]) (okPr (by decide))) rfl; (try refine nY ?_); (try replace hst := nH hst); refine v_next hK hst hT3 (Suf.refl _) ?_; clear hst hK K; (try clear w); (try refine nY ?_)
  refine v_two 1 8 rfl rfl (by kernel_rfl) ?_ ?_
  intro w hst K hK; refine s_call (sample_f w hst) inX rfl ?_; clear hst; rintro v1 w ⟨T1, hT1, hv1, hv11, hst⟩; (try refine nY ?_); (try replace hst := nH hst); refine v_next hK hst hT1 (Suf.refl _) ?_; clear hst hK K; (try clear w); (try refine nY ?_)
  refine v_two 4 8 rfl rfl (by kernel_rfl) ?_ ?_
  intro w hst K hK; refine s_call (makeS2_c w hst (by exact hG3.mono (hT3.trans hT1)) v1 (by exact hv1) x3 (by exact hx3.mono hT1)) inX rfl ?_; clear hst; rintro v5 w ⟨rfl, hst⟩; (try refine nY ?_); (try replace hst := nH hst); refine v_next hK hst (Snap.Le.refl _) (Suf.refl _) ?_; clear hst hK K; (try clear w); (try refine nY ?_)
  (refine t_qt 5 rfl (by kernel_rfl) rfl rfl (by exact qt_move evX) ?_) <;> (try refine nY ?_)
  (refine t_qt 6 rfl (by kernel_rfl) rfl rfl (by exact qt_extract rfl rfl) ?_) <;> (try refine nY ?_)
  (refine t_pure 7 rfl (by kernel_rfl) rfl rfl (fun _ _ => by exact qt_extract rfl rfl) ?_) <;> (try refine nY ?_)
  refine v_one 8 rfl (by kernel_rfl) ?_; intro w hst K hK; refine s_alloc hst inX ?_; clear hst; intro b8 w hst; (try refine nY ?_); (try replace hst := nH hst); refine v_next hK hst (Snap.Le.refl _) (Suf.cons (Suf.refl _)) ?_; clear hst hK K; (try clear w); (try refine nY ?_)
  refine v_one 9 rfl (by kernel_rfl) ?_; intro w hst K hK; (refine s_store hst rfl _ BoxIn.h inX evX rfl lenOk oneOk (by simp <;> omega) ?_); clear hst; intro w hst; (try refine nY ?_); (try replace hst := nH hst); refine v_last hK hst ?_; clear hst hK K; (try clear w); (try refine nY ?_)
  (refine t_qt 10 rfl (by kernel_rfl) rfl rfl (by exact qt_assign evX) ?_) <;> (try refine nY ?_)
  refine v_done (by kernel_rfl) ?_; clear ops; intro w hst; refine hQ' [_, _, _, _, _, _, _, _, _, _] w ⟨_, _, _, _, _, _, _, _, _, _, rfl, ?_⟩; (exact ⟨_, hT3.trans hT1, rfl, hst.drop⟩)
  intro w hst K hK; refine s_alloc hst inX ?_; clear hst; intro b8 w hst; (try refine nY ?_); (try replace hst := nH hst); refine v_next hK hst (Snap.Le.refl _) (Suf.cons (Suf.refl _)) ?_; clear hst hK K; (try clear w); (try refine nY ?_)
  refine v_one 4 rfl (by kernel_rfl) ?_; intro w hst K hK; refine s_call (makeS2_c w hst (by exact hG3.mono (hT3.trans hT1)) v1 (by exact hv1) x3 (by exact hx3.mono hT1)) inX rfl ?_; clear hst; rintro v5 w ⟨rfl, hst⟩; (try refine nY ?_); (try replace hst := nH hst); refine v_next hK hst (Snap.Le.refl _) (Suf.refl _) ?_; clear hst hK K; (try clear w); (try refine nY ?_)
  (refine t_qt 5 rfl (by kernel_rfl) rfl rfl (by exact qt_move evX) ?_) <;> (try refine nY ?_)
  (refine t_qt 6 rfl (by kernel_rfl) rfl rfl (by exact qt_extract rfl rfl) ?_) <;> (try refine nY ?_)
  (refine t_pure 7 rfl (by kernel_rfl) rfl rfl (fun _ _ => by exact qt_extract rfl rfl) ?_) <;> (try refine nY ?_)
  refine v_one 9 rfl (by kernel_rfl) ?_; intro w hst K hK; (refine s_store hst rfl _ BoxIn.h inX evX rfl lenOk oneOk (by simp <;> omega) ?_); clear hst; intro w hst; (try refine nY ?_); (try replace hst := nH hst); refine v_last hK hst ?_; clear hst hK K; (try clear w); (try refine nY ?_)
  (refine t_qt 10 rfl (by kernel_rfl) rfl rfl (by exact qt_assign evX) ?_) <;> (try refine nY ?_)
  refine v_done (by kernel_rfl) ?_; clear ops; intro w hst; refine hQ' [_, _, _, _, _, _, _, _, _, _] w ⟨_, _, _, _, _, _, _, _, _, _, rfl, ?_⟩; (exact ⟨_, hT3.trans hT1, rfl, hst.drop⟩)
  intro w hst K hK; refine s_alloc hst inX ?_; clear hst; intro b8 w hst; (try refine nY ?_); (try replace hst := nH hst); refine v_next hK hst (Snap.Le.refl _) (Suf.cons (Suf.refl _)) ?_; clear hst hK K; (try clear w); (try refine nY ?_)
  refine v_one 1 rfl (by kernel_rfl) ?_; intro w hst K hK; refine s_call (sample_f w hst) inX rfl ?_; clear hst; rintro v1 w ⟨T1, hT1, hv1, hv11, hst⟩; (try refine nY ?_); (try replace hst := nH hst); refine v_next hK hst hT1 (Suf.refl _) ?_; clear hst hK K; (try clear w); (try refine nY ?_)
  refine v_one 4 rfl (by kernel_rfl) ?_; intro w hst K hK; refine s_call (makeS2_c w hst (by exact hG3.mono (hT3.trans hT1)) v1 (by exact hv1) x3 (by exact hx3.mono hT1)) inX rfl ?_; clear hst; rintro v5 w ⟨rfl, hst⟩; (try refine nY ?_); (try replace hst := nH hst); refine v_next hK hst (Snap.Le.refl _) (Suf.refl _) ?_; clear hst hK K; (try clear w); (try refine nY ?_)
  (refine t_qt 5 rfl (by kernel_rfl) rfl rfl (by exact qt_move evX) ?_) <;> (try refine nY ?_)
  (refine t_qt 6 rfl (by kernel_rfl) rfl rfl (by exact qt_extract rfl rfl) ?_) <;> (try refine nY ?_)
  (refine t_pure 7 rfl (by kernel_rfl) rfl rfl (fun _ _ => by exact qt_extract rfl rfl) ?_) <;> (try refine nY ?_)
  refine v_one 9 rfl (by kernel_rfl) ?_; intro w hst K hK; (refine s_store hst rfl _ BoxIn.h inX evX rfl lenOk oneOk (by simp <;> omega) ?_); clear hst; intro w hst; (try refine nY ?_); (try replace hst := nH hst); refine v_last hK hst ?_; clear hst hK K; (try clear w); (try refine nY ?_)
  (refine t_qt 10 rfl (by kernel_rfl) rfl rfl (by exact qt_assign evX) ?_) <;> (try refine nY ?_)
  refine v_done (by kernel_rfl) ?_; clear ops; intro w hst; refine hQ' [_, _, _, _, _, _, _, _, _, _] w ⟨_, _, _, _, _, _, _, _, _, _, rfl, ?_⟩; (exact ⟨_, hT3.trans hT1, rfl, hst.drop⟩)
  intro w hst K hK; refine s_alloc hst inX ?_; clear hst; intro b8 w hst; (try refine nY ?_); (try replace hst := nH hst); refine v_next hK hst (Snap.Le.refl _) (Suf.cons (Suf.refl _)) ?_; clear hst hK K; (try clear w); (try refine nY ?_)
  refine v_two 1 3 rfl rfl (by kernel_rfl) ?_ ?_
  intro w hst K hK; refine s_call (sample_f w hst) inX rfl ?_; clear hst; rintro v1 w ⟨T1, hT1, hv1, hv11, hst⟩; (try refine nY ?_); (try replace hst := nH hst); refine v_next hK hst hT1 (Suf.refl _) ?_; clear hst hK K; (try clear w); (try refine nY ?_)
  refine v_one 3 rfl (by kernel_rfl) ?_; intro w hst K hK; refine s_lit (vs := [.agg #[.int .i64 0, .int .i64 3]]) (cs := [.int .i64 0, .int .i64 3]) hst inX inX rfl rfl (by simp [Value.cells]) rfl (by omega) (by omega) ?_; clear hst; intro x3 w hst; obtain ⟨T3, hT3, hst, hx3⟩ := St.freeze (α := Int × Int) (xs := [(0, 3)]) hst (rl_pairs (ps := [(0, 3)]) (okPr (by decide))) rfl; (try refine nY ?_); (try replace hst := nH hst); refine v_next hK hst hT3 (Suf.refl _) ?_; clear hst hK K; (try clear w); (try refine nY ?_)
  refine v_one 4 rfl (by kernel_rfl) ?_; intro w hst K hK; refine s_call (makeS2_c w hst (by exact hG3.mono (hT1.trans hT3)) v1 (by exact hv1.mono hT3) x3 (by exact hx3)) inX rfl ?_; clear hst; rintro v5 w ⟨rfl, hst⟩; (try refine nY ?_); (try replace hst := nH hst); refine v_next hK hst (Snap.Le.refl _) (Suf.refl _) ?_; clear hst hK K; (try clear w); (try refine nY ?_)
  (refine t_qt 5 rfl (by kernel_rfl) rfl rfl (by exact qt_move evX) ?_) <;> (try refine nY ?_)
  (refine t_qt 6 rfl (by kernel_rfl) rfl rfl (by exact qt_extract rfl rfl) ?_) <;> (try refine nY ?_)
  (refine t_pure 7 rfl (by kernel_rfl) rfl rfl (fun _ _ => by exact qt_extract rfl rfl) ?_) <;> (try refine nY ?_)
  refine v_one 9 rfl (by kernel_rfl) ?_; intro w hst K hK; (refine s_store hst rfl _ BoxIn.h inX evX rfl lenOk oneOk (by simp <;> omega) ?_); clear hst; intro w hst; (try refine nY ?_); (try replace hst := nH hst); refine v_last hK hst ?_; clear hst hK K; (try clear w); (try refine nY ?_)
  (refine t_qt 10 rfl (by kernel_rfl) rfl rfl (by exact qt_assign evX) ?_) <;> (try refine nY ?_)
  refine v_done (by kernel_rfl) ?_; clear ops; intro w hst; refine hQ' [_, _, _, _, _, _, _, _, _, _] w ⟨_, _, _, _, _, _, _, _, _, _, rfl, ?_⟩; (exact ⟨_, hT1.trans hT3, rfl, hst.drop⟩)
  intro w hst K hK; refine s_lit (vs := [.agg #[.int .i64 0, .int .i64 3]]) (cs := [.int .i64 0, .int .i64 3]) hst inX inX rfl rfl (by simp [Value.cells]) rfl (by omega) (by omega) ?_; clear hst; intro x3 w hst; obtain ⟨T3, hT3, hst, hx3⟩ := St.freeze (α := Int × Int) (xs := [(0, 3)]) hst (rl_pairs (ps := [(0, 3)]) (okPr (by decide))) rfl; (try refine nY ?_); (try replace hst := nH hst); refine v_next hK hst hT3 (Suf.refl _) ?_; clear hst hK K; (try clear w); (try refine nY ?_)
  refine v_one 1 rfl (by kernel_rfl) ?_; intro w hst K hK; refine s_call (sample_f w hst) inX rfl ?_; clear hst; rintro v1 w ⟨T1, hT1, hv1, hv11, hst⟩; (try refine nY ?_); (try replace hst := nH hst); refine v_next hK hst hT1 (Suf.refl _) ?_; clear hst hK K; (try clear w); (try refine nY ?_)
  refine v_one 4 rfl (by kernel_rfl) ?_; intro w hst K hK; refine s_call (makeS2_c w hst (by exact hG3.mono (hT3.trans hT1)) v1 (by exact hv1) x3 (by exact hx3.mono hT1)) inX rfl ?_; clear hst; rintro v5 w ⟨rfl, hst⟩; (try refine nY ?_); (try replace hst := nH hst); refine v_next hK hst (Snap.Le.refl _) (Suf.refl _) ?_; clear hst hK K; (try clear w); (try refine nY ?_)
  (refine t_qt 5 rfl (by kernel_rfl) rfl rfl (by exact qt_move evX) ?_) <;> (try refine nY ?_)
  (refine t_qt 6 rfl (by kernel_rfl) rfl rfl (by exact qt_extract rfl rfl) ?_) <;> (try refine nY ?_)
  (refine t_pure 7 rfl (by kernel_rfl) rfl rfl (fun _ _ => by exact qt_extract rfl rfl) ?_) <;> (try refine nY ?_)
  refine v_one 9 rfl (by kernel_rfl) ?_; intro w hst K hK; (refine s_store hst rfl _ BoxIn.h inX evX rfl lenOk oneOk (by simp <;> omega) ?_); clear hst; intro w hst; (try refine nY ?_); (try replace hst := nH hst); refine v_last hK hst ?_; clear hst hK K; (try clear w); (try refine nY ?_)
  (refine t_qt 10 rfl (by kernel_rfl) rfl rfl (by exact qt_assign evX) ?_) <;> (try refine nY ?_)
  refine v_done (by kernel_rfl) ?_; clear ops; intro w hst; refine hQ' [_, _, _, _, _, _, _, _, _, _] w ⟨_, _, _, _, _, _, _, _, _, _, rfl, ?_⟩; (exact ⟨_, hT3.trans hT1, rfl, hst.drop⟩)
  replace hpe := hpe.mono hS4
  replace hS4 := hS3.trans hS4
  clear hS3 hG3
  have hG4 := hG.mono hS4
  repeat' ((fail_if_success (with_reducible show Code.wp _ (Code.region 4 _ _) _ _ _)); ((fail_if_success (go_big_may)); (go_step)))
  refine v_join [29, 30, 31, 32, 33, 34, 28, 35, 36, 6, 7] (fun vs w => ∃ s29 s30 s31 s32 s33 s34 s28 s35 s36 s6 s7 : Value, vs = [s29, s30, s31, s32, s33, s34, s28, s35, s36, s6, s7] ∧ (∃ (T : Snap), S4.Le T ∧ s7 = .int .i64 1 ∧ St T (.box bm (u8s d9s.l) 23 :: M) w)) ?_ ?_
  rotate_left
  clear hst; rintro _ w ⟨s29, s30, s31, s32, s33, s34, s28, s35, s36, s6, s7, rfl, S5, hS5, rfl, hst⟩; simp only [setMany_cons, setMany_nil]; (try refine nY ?_)
  rotate_left
  intro Q' hQ'
  refine v_begin hst (by kernel_rfl) ?_; clear hst; intro ops; (try refine nY ?_)
  (refine t_qt 0 rfl (by kernel_rfl) rfl rfl (by exact qt_loadA evX BoxIn.h inX rfX) ?_) <;> (try refine nY ?_)
  (refine t_qt 2 rfl (by kernel_rfl) rfl rfl (qt_buildA (cs := [.int .i64 1, .int .i64 0]) inX inX inX rfl) ?_) <;> (try refine nY ?_)
  (refine t_qt 3 rfl (by kernel_rfl) rfl rfl (qt_buildA (cs := [.int .i64 1, .int .i64 0]) inX inX inX rfl) ?_) <;> (try refine nY ?_)
  refine v_three 1 4 9 rfl rfl rfl (by kernel_rfl) ?_ ?_ ?_
  intro w hst K hK; refine s_call (sample_f w hst) inX rfl ?_; clear hst; rintro v1 w ⟨T1, hT1, hv1, hv11, hst⟩; (try refine nY ?_); (try replace hst := nH hst); refine v_next hK hst hT1 (Suf.refl _) ?_; clear hst hK K; (try clear w); (try refine nY ?_)
  refine v_two 4 9 rfl rfl (by kernel_rfl) ?_ ?_
  intro w hst K hK; refine s_lit (vs := [.agg #[.int .i64 1, .int .i64 0], .agg #[.int .i64 1, .int .i64 0]]) (cs := [.int .i64 1, .int .i64 0, .int .i64 1, .int .i64 0]) hst inX inX rfl rfl (by simp [Value.cells]) rfl (by omega) (by omega) ?_; clear hst; intro x3 w hst; obtain ⟨T3, hT3, hst, hx3⟩ := St.freeze (α := Int × Int) (xs := [(1, 0), (1, 0)]) hst (rl_pairs (ps := [(1, 0), (1, 0)]) (okPr (by decide))) rfl; (try refine nY ?_); (try replace hst := nH hst); refine v_next hK hst hT3 (Suf.refl _) ?_; clear hst hK K; (try clear w); (try refine nY ?_)
  refine v_two 5 9 rfl rfl (by kernel_rfl) ?_ ?_
  intro w hst K hK; refine s_call (makeS3_c w hst (by exact hG4.mono (hT1.trans hT3)) v1 (by exact hv1.mono hT3) x3 (by exact hx3)) inX rfl ?_; clear hst; rintro v5 w ⟨rfl, hst⟩; (try refine nY ?_); (try replace hst := nH hst); refine v_next hK hst (Snap.Le.refl _) (Suf.refl _) ?_; clear hst hK K; (try clear w); (try refine nY ?_)
  (refine t_qt 6 rfl (by kernel_rfl) rfl rfl (by exact qt_move evX) ?_) <;> (try refine nY ?_)
  (refine t_qt 7 rfl (by kernel_rfl) rfl rfl (by exact qt_extract rfl rfl) ?_) <;> (try refine nY ?_)
  (refine t_pure 8 rfl (by kernel_rfl) rfl rfl (fun _ _ => by exact qt_extract rfl rfl) ?_) <;> (try refine nY ?_)
  refine v_one 9 rfl (by kernel_rfl) ?_; intro w hst K hK; refine s_alloc hst inX ?_; clear hst; intro b9 w hst; (try refine nY ?_); (try replace hst := nH hst); refine v_next hK hst (Snap.Le.refl _) (Suf.cons (Suf.refl _)) ?_; clear hst hK K; (try clear w); (try refine nY ?_)
  refine v_one 10 rfl (by kernel_rfl) ?_; intro w hst K hK; (refine s_store hst rfl _ BoxIn.h inX evX rfl lenOk oneOk (by simp <;> omega) ?_); clear hst; intro w hst; (try refine nY ?_); (try replace hst := nH hst); refine v_last hK hst ?_; clear hst hK K; (try clear w); (try refine nY ?_)
  (refine t_qt 11 rfl (by kernel_rfl) rfl rfl (by exact qt_assign evX) ?_) <;> (try refine nY ?_)
  refine v_done (by kernel_rfl) ?_; clear ops; intro w hst; refine hQ' [_, _, _, _, _, _, _, _, _, _, _] w ⟨_, _, _, _, _, _, _, _, _, _, _, rfl, ?_⟩; (exact ⟨_, hT1.trans hT3, rfl, hst.drop⟩)
  intro w hst K hK; refine s_alloc hst inX ?_; clear hst; intro b9 w hst; (try refine nY ?_); (try replace hst := nH hst); refine v_next hK hst (Snap.Le.refl _) (Suf.cons (Suf.refl _)) ?_; clear hst hK K; (try clear w); (try refine nY ?_)
  refine v_one 5 rfl (by kernel_rfl) ?_; intro w hst K hK; refine s_call (makeS3_c w hst (by exact hG4.mono (hT1.trans hT3)) v1 (by exact hv1.mono hT3) x3 (by exact hx3)) inX rfl ?_; clear hst; rintro v5 w ⟨rfl, hst⟩; (try refine nY ?_); (try replace hst := nH hst); refine v_next hK hst (Snap.Le.refl _) (Suf.refl _) ?_; clear hst hK K; (try clear w); (try refine nY ?_)
  (refine t_qt 6 rfl (by kernel_rfl) rfl rfl (by exact qt_move evX) ?_) <;> (try refine nY ?_)
  (refine t_qt 7 rfl (by kernel_rfl) rfl rfl (by exact qt_extract rfl rfl) ?_) <;> (try refine nY ?_)
  (refine t_pure 8 rfl (by kernel_rfl) rfl rfl (fun _ _ => by exact qt_extract rfl rfl) ?_) <;> (try refine nY ?_)
  refine v_one 10 rfl (by kernel_rfl) ?_; intro w hst K hK; (refine s_store hst rfl _ BoxIn.h inX evX rfl lenOk oneOk (by simp <;> omega) ?_); clear hst; intro w hst; (try refine nY ?_); (try replace hst := nH hst); refine v_last hK hst ?_; clear hst hK K; (try clear w); (try refine nY ?_)
  (refine t_qt 11 rfl (by kernel_rfl) rfl rfl (by exact qt_assign evX) ?_) <;> (try refine nY ?_)
  refine v_done (by kernel_rfl) ?_; clear ops; intro w hst; refine hQ' [_, _, _, _, _, _, _, _, _, _, _] w ⟨_, _, _, _, _, _, _, _, _, _, _, rfl, ?_⟩; (exact ⟨_, hT1.trans hT3, rfl, hst.drop⟩)
  intro w hst K hK; refine s_alloc hst inX ?_; clear hst; intro b9 w hst; (try refine nY ?_); (try replace hst := nH hst); refine v_next hK hst (Snap.Le.refl _) (Suf.cons (Suf.refl _)) ?_; clear hst hK K; (try clear w); (try refine nY ?_)
  refine v_one 4 rfl (by kernel_rfl) ?_; intro w hst K hK; refine s_lit (vs := [.agg #[.int .i64 1, .int .i64 0], .agg #[.int .i64 1, .int .i64 0]]) (cs := [.int .i64 1, .int .i64 0, .int .i64 1, .int .i64 0]) hst inX inX rfl rfl (by simp [Value.cells]) rfl (by omega) (by omega) ?_; clear hst; intro x3 w hst; obtain ⟨T3, hT3, hst, hx3⟩ := St.freeze (α := Int × Int) (xs := [(1, 0), (1, 0)]) hst (rl_pairs (ps := [(1, 0), (1, 0)]) (okPr (by decide))) rfl; (try refine nY ?_); (try replace hst := nH hst); refine v_next hK hst hT3 (Suf.refl _) ?_; clear hst hK K; (try clear w); (try refine nY ?_)
  refine v_one 5 rfl (by kernel_rfl) ?_; intro w hst K hK; refine s_call (makeS3_c w hst (by exact hG4.mono (hT1.trans hT3)) v1 (by exact hv1.mono hT3) x3 (by exact hx3)) inX rfl ?_; clear hst; rintro v5 w ⟨rfl, hst⟩; (try refine nY ?_); (try replace hst := nH hst); refine v_next hK hst (Snap.Le.refl _) (Suf.refl _) ?_; clear hst hK K; (try clear w); (try refine nY ?_)
  (refine t_qt 6 rfl (by kernel_rfl) rfl rfl (by exact qt_move evX) ?_) <;> (try refine nY ?_)
  (refine t_qt 7 rfl (by kernel_rfl) rfl rfl (by exact qt_extract rfl rfl) ?_) <;> (try refine nY ?_)
  (refine t_pure 8 rfl (by kernel_rfl) rfl rfl (fun _ _ => by exact qt_extract rfl rfl) ?_) <;> (try refine nY ?_)
  refine v_one 10 rfl (by kernel_rfl) ?_; intro w hst K hK; (refine s_store hst rfl _ BoxIn.h inX evX rfl lenOk oneOk (by simp <;> omega) ?_); clear hst; intro w hst; (try refine nY ?_); (try replace hst := nH hst); refine v_last hK hst ?_; clear hst hK K; (try clear w); (try refine nY ?_)
  (refine t_qt 11 rfl (by kernel_rfl) rfl rfl (by exact qt_assign evX) ?_) <;> (try refine nY ?_)
  refine v_done (by kernel_rfl) ?_; clear ops; intro w hst; refine hQ' [_, _, _, _, _, _, _, _, _, _, _] w ⟨_, _, _, _, _, _, _, _, _, _, _, rfl, ?_⟩; (exact ⟨_, hT1.trans hT3, rfl, hst.drop⟩)
  intro w hst K hK; refine s_lit (vs := [.agg #[.int .i64 1, .int .i64 0], .agg #[.int .i64 1, .int .i64 0]]) (cs := [.int .i64 1, .int .i64 0, .int .i64 1, .int .i64 0]) hst inX inX rfl rfl (by simp [Value.cells]) rfl (by omega) (by omega) ?_; clear hst; intro x3 w hst; obtain ⟨T3, hT3, hst, hx3⟩ := St.freeze (α := Int × Int) (xs := [(1, 0), (1, 0)]) hst (rl_pairs (ps := [(1, 0), (1, 0)]) (okPr (by decide))) rfl; (try refine nY ?_); (try replace hst := nH hst); refine v_next hK hst hT3 (Suf.refl _) ?_; clear hst hK K; (try clear w); (try refine nY ?_)
  refine v_two 1 9 rfl rfl (by kernel_rfl) ?_ ?_
  intro w hst K hK; refine s_call (sample_f w hst) inX rfl ?_; clear hst; rintro v1 w ⟨T1, hT1, hv1, hv11, hst⟩; (try refine nY ?_); (try replace hst := nH hst); refine v_next hK hst hT1 (Suf.refl _) ?_; clear hst hK K; (try clear w); (try refine nY ?_)
  refine v_two 5 9 rfl rfl (by kernel_rfl) ?_ ?_
  intro w hst K hK; refine s_call (makeS3_c w hst (by exact hG4.mono (hT3.trans hT1)) v1 (by exact hv1) x3 (by exact hx3.mono hT1)) inX rfl ?_; clear hst; rintro v5 w ⟨rfl, hst⟩; (try refine nY ?_); (try replace hst := nH hst); refine v_next hK hst (Snap.Le.refl _) (Suf.refl _) ?_; clear hst hK K; (try clear w); (try refine nY ?_)
  (refine t_qt 6 rfl (by kernel_rfl) rfl rfl (by exact qt_move evX) ?_) <;> (try refine nY ?_)
  (refine t_qt 7 rfl (by kernel_rfl) rfl rfl (by exact qt_extract rfl rfl) ?_) <;> (try refine nY ?_)
  (refine t_pure 8 rfl (by kernel_rfl) rfl rfl (fun _ _ => by exact qt_extract rfl rfl) ?_) <;> (try refine nY ?_)
  refine v_one 9 rfl (by kernel_rfl) ?_; intro w hst K hK; refine s_alloc hst inX ?_; clear hst; intro b9 w hst; (try refine nY ?_); (try replace hst := nH hst); refine v_next hK hst (Snap.Le.refl _) (Suf.cons (Suf.refl _)) ?_; clear hst hK K; (try clear w); (try refine nY ?_)
  refine v_one 10 rfl (by kernel_rfl) ?_; intro w hst K hK; (refine s_store hst rfl _ BoxIn.h inX evX rfl lenOk oneOk (by simp <;> omega) ?_); clear hst; intro w hst; (try refine nY ?_); (try replace hst := nH hst); refine v_last hK hst ?_; clear hst hK K; (try clear w); (try refine nY ?_)
  (refine t_qt 11 rfl (by kernel_rfl) rfl rfl (by exact qt_assign evX) ?_) <;> (try refine nY ?_)
  refine v_done (by kernel_rfl) ?_; clear ops; intro w hst; refine hQ' [_, _, _, _, _, _, _, _, _, _, _] w ⟨_, _, _, _, _, _, _, _, _, _, _, rfl, ?_⟩; (exact ⟨_, hT3.trans hT1, rfl, hst.drop⟩)
  intro w hst K hK; refine s_alloc hst inX ?_; clear hst; intro b9 w hst; (try refine nY ?_); (try replace hst := nH hst); refine v_next hK hst (Snap.Le.refl _) (Suf.cons (Suf.refl _)) ?_; clear hst hK K; (try clear w); (try refine nY ?_)
  refine v_one 5 rfl (by kernel_rfl) ?_; intro w hst K hK; refine s_call (makeS3_c w hst (by exact hG4.mono (hT3.trans hT1)) v1 (by exact hv1) x3 (by exact hx3.mono hT1)) inX rfl ?_; clear hst; rintro v5 w ⟨rfl, hst⟩; (try refine nY ?_); (try replace hst := nH hst); refine v_next hK hst (Snap.Le.refl _) (Suf.refl _) ?_; clear hst hK K; (try clear w); (try refine nY ?_)
  (refine t_qt 6 rfl (by kernel_rfl) rfl rfl (by exact qt_move evX) ?_) <;> (try refine nY ?_)
  (refine t_qt 7 rfl (by kernel_rfl) rfl rfl (by exact qt_extract rfl rfl) ?_) <;> (try refine nY ?_)
  (refine t_pure 8 rfl (by kernel_rfl) rfl rfl (fun _ _ => by exact qt_extract rfl rfl) ?_) <;> (try refine nY ?_)
  refine v_one 10 rfl (by kernel_rfl) ?_; intro w hst K hK; (refine s_store hst rfl _ BoxIn.h inX evX rfl lenOk oneOk (by simp <;> omega) ?_); clear hst; intro w hst; (try refine nY ?_); (try replace hst := nH hst); refine v_last hK hst ?_; clear hst hK K; (try clear w); (try refine nY ?_)
  (refine t_qt 11 rfl (by kernel_rfl) rfl rfl (by exact qt_assign evX) ?_) <;> (try refine nY ?_)
  refine v_done (by kernel_rfl) ?_; clear ops; intro w hst; refine hQ' [_, _, _, _, _, _, _, _, _, _, _] w ⟨_, _, _, _, _, _, _, _, _, _, _, rfl, ?_⟩; (exact ⟨_, hT3.trans hT1, rfl, hst.drop⟩)
  intro w hst K hK; refine s_alloc hst inX ?_; clear hst; intro b9 w hst; (try refine nY ?_); (try replace hst := nH hst); refine v_next hK hst (Snap.Le.refl _) (Suf.cons (Suf.refl _)) ?_; clear hst hK K; (try clear w); (try refine nY ?_)
  refine v_one 1 rfl (by kernel_rfl) ?_; intro w hst K hK; refine s_call (sample_f w hst) inX rfl ?_; clear hst; rintro v1 w ⟨T1, hT1, hv1, hv11, hst⟩; (try refine nY ?_); (try replace hst := nH hst); refine v_next hK hst hT1 (Suf.refl _) ?_; clear hst hK K; (try clear w); (try refine nY ?_)
  refine v_one 5 rfl (by kernel_rfl) ?_; intro w hst K hK; refine s_call (makeS3_c w hst (by exact hG4.mono (hT3.trans hT1)) v1 (by exact hv1) x3 (by exact hx3.mono hT1)) inX rfl ?_; clear hst; rintro v5 w ⟨rfl, hst⟩; (try refine nY ?_); (try replace hst := nH hst); refine v_next hK hst (Snap.Le.refl _) (Suf.refl _) ?_; clear hst hK K; (try clear w); (try refine nY ?_)
  (refine t_qt 6 rfl (by kernel_rfl) rfl rfl (by exact qt_move evX) ?_) <;> (try refine nY ?_)
  (refine t_qt 7 rfl (by kernel_rfl) rfl rfl (by exact qt_extract rfl rfl) ?_) <;> (try refine nY ?_)
  (refine t_pure 8 rfl (by kernel_rfl) rfl rfl (fun _ _ => by exact qt_extract rfl rfl) ?_) <;> (try refine nY ?_)
  refine v_one 10 rfl (by kernel_rfl) ?_; intro w hst K hK; (refine s_store hst rfl _ BoxIn.h inX evX rfl lenOk oneOk (by simp <;> omega) ?_); clear hst; intro w hst; (try refine nY ?_); (try replace hst := nH hst); refine v_last hK hst ?_; clear hst hK K; (try clear w); (try refine nY ?_)
  (refine t_qt 11 rfl (by kernel_rfl) rfl rfl (by exact qt_assign evX) ?_) <;> (try refine nY ?_)
  refine v_done (by kernel_rfl) ?_; clear ops; intro w hst; refine hQ' [_, _, _, _, _, _, _, _, _, _, _] w ⟨_, _, _, _, _, _, _, _, _, _, _, rfl, ?_⟩; (exact ⟨_, hT3.trans hT1, rfl, hst.drop⟩)
  intro w hst K hK; refine s_alloc hst inX ?_; clear hst; intro b9 w hst; (try refine nY ?_); (try replace hst := nH hst); refine v_next hK hst (Snap.Le.refl _) (Suf.cons (Suf.refl _)) ?_; clear hst hK K; (try clear w); (try refine nY ?_)
  refine v_two 1 4 rfl rfl (by kernel_rfl) ?_ ?_
  intro w hst K hK; refine s_call (sample_f w hst) inX rfl ?_; clear hst; rintro v1 w ⟨T1, hT1, hv1, hv11, hst⟩; (try refine nY ?_); (try replace hst := nH hst); refine v_next hK hst hT1 (Suf.refl _) ?_; clear hst hK K; (try clear w); (try refine nY ?_)
  refine v_one 4 rfl (by kernel_rfl) ?_; intro w hst K hK; refine s_lit (vs := [.agg #[.int .i64 1, .int .i64 0], .agg #[.int .i64 1, .int .i64 0]]) (cs := [.int .i64 1, .int .i64 0, .int .i64 1, .int .i64 0]) hst inX inX rfl rfl (by simp [Value.cells]) rfl (by omega) (by omega) ?_; clear hst; intro x3 w hst; obtain ⟨T3, hT3, hst, hx3⟩ := St.freeze (α := Int × Int) (xs := [(1, 0), (1, 0)]) hst (rl_pairs (ps := [(1, 0), (1, 0)]) (okPr (by decide))) rfl; (try refine nY ?_); (try replace hst := nH hst); refine v_next hK hst hT3 (Suf.refl _) ?_; clear hst hK K; (try clear w); (try refine nY ?_)
  refine v_one 5 rfl (by kernel_rfl) ?_; intro w hst K hK; refine s_call (makeS3_c w hst (by exact hG4.mono (hT1.trans hT3)) v1 (by exact hv1.mono hT3) x3 (by exact hx3)) inX rfl ?_; clear hst; rintro v5 w ⟨rfl, hst⟩; (try refine nY ?_); (try replace hst := nH hst); refine v_next hK hst (Snap.Le.refl _) (Suf.refl _) ?_; clear hst hK K; (try clear w); (try refine nY ?_)
  (refine t_qt 6 rfl (by kernel_rfl) rfl rfl (by exact qt_move evX) ?_) <;> (try refine nY ?_)
  (refine t_qt 7 rfl (by kernel_rfl) rfl rfl (by exact qt_extract rfl rfl) ?_) <;> (try refine nY ?_)
  (refine t_pure 8 rfl (by kernel_rfl) rfl rfl (fun _ _ => by exact qt_extract rfl rfl) ?_) <;> (try refine nY ?_)
  refine v_one 10 rfl (by kernel_rfl) ?_; intro w hst K hK; (refine s_store hst rfl _ BoxIn.h inX evX rfl lenOk oneOk (by simp <;> omega) ?_); clear hst; intro w hst; (try refine nY ?_); (try replace hst := nH hst); refine v_last hK hst ?_; clear hst hK K; (try clear w); (try refine nY ?_)
  (refine t_qt 11 rfl (by kernel_rfl) rfl rfl (by exact qt_assign evX) ?_) <;> (try refine nY ?_)
  refine v_done (by kernel_rfl) ?_; clear ops; intro w hst; refine hQ' [_, _, _, _, _, _, _, _, _, _, _] w ⟨_, _, _, _, _, _, _, _, _, _, _, rfl, ?_⟩; (exact ⟨_, hT1.trans hT3, rfl, hst.drop⟩)
  intro w hst K hK; refine s_lit (vs := [.agg #[.int .i64 1, .int .i64 0], .agg #[.int .i64 1, .int .i64 0]]) (cs := [.int .i64 1, .int .i64 0, .int .i64 1, .int .i64 0]) hst inX inX rfl rfl (by simp [Value.cells]) rfl (by omega) (by omega) ?_; clear hst; intro x3 w hst; obtain ⟨T3, hT3, hst, hx3⟩ := St.freeze (α := Int × Int) (xs := [(1, 0), (1, 0)]) hst (rl_pairs (ps := [(1, 0), (1, 0)]) (okPr (by decide))) rfl; (try refine nY ?_); (try replace hst := nH hst); refine v_next hK hst hT3 (Suf.refl _) ?_; clear hst hK K; (try clear w); (try refine nY ?_)
  refine v_one 1 rfl (by kernel_rfl) ?_; intro w hst K hK; refine s_call (sample_f w hst) inX rfl ?_; clear hst; rintro v1 w ⟨T1, hT1, hv1, hv11, hst⟩; (try refine nY ?_); (try replace hst := nH hst); refine v_next hK hst hT1 (Suf.refl _) ?_; clear hst hK K; (try clear w); (try refine nY ?_)
  refine v_one 5 rfl (by kernel_rfl) ?_; intro w hst K hK; refine s_call (makeS3_c w hst (by exact hG4.mono (hT3.trans hT1)) v1 (by exact hv1) x3 (by exact hx3.mono hT1)) inX rfl ?_; clear hst; rintro v5 w ⟨rfl, hst⟩; (try refine nY ?_); (try replace hst := nH hst); refine v_next hK hst (Snap.Le.refl _) (Suf.refl _) ?_; clear hst hK K; (try clear w); (try refine nY ?_)
  (refine t_qt 6 rfl (by kernel_rfl) rfl rfl (by exact qt_move evX) ?_) <;> (try refine nY ?_)
  (refine t_qt 7 rfl (by kernel_rfl) rfl rfl (by exact qt_extract rfl rfl) ?_) <;> (try refine nY ?_)
  (refine t_pure 8 rfl (by kernel_rfl) rfl rfl (fun _ _ => by exact qt_extract rfl rfl) ?_) <;> (try refine nY ?_)
  refine v_one 10 rfl (by kernel_rfl) ?_; intro w hst K hK; (refine s_store hst rfl _ BoxIn.h inX evX rfl lenOk oneOk (by simp <;> omega) ?_); clear hst; intro w hst; (try refine nY ?_); (try replace hst := nH hst); refine v_last hK hst ?_; clear hst hK K; (try clear w); (try refine nY ?_)
  (refine t_qt 11 rfl (by kernel_rfl) rfl rfl (by exact qt_assign evX) ?_) <;> (try refine nY ?_)
  refine v_done (by kernel_rfl) ?_; clear ops; intro w hst; refine hQ' [_, _, _, _, _, _, _, _, _, _, _] w ⟨_, _, _, _, _, _, _, _, _, _, _, rfl, ?_⟩; (exact ⟨_, hT3.trans hT1, rfl, hst.drop⟩)
  replace hpe := hpe.mono hS5
  replace hS5 := hS4.trans hS5
  clear hS4 hG4
  have hG5 := hG.mono hS5
  have tl1 : ((([ptA 3, ptC] : List Pn).length : Int) != 2) = false := rfl
  have tl2 : (((logS.map headM).length : Int) != 2) = false := rfl
  repeat' ((fail_if_success (with_reducible show Code.wp _ (Code.region 7 _ _) _ _ _)); first | ((first | (with_reducible refine Sl.k_bin ?_; (refine s_qt hst (qt_neq_b rfl rfl tl1) ?_)) | (with_reducible refine Sl.k_guard ?_; ((refine Sl.guard_yes rfl ?_)))) <;> (try refine nY ?_)) | ((fail_if_success (go_big_may)); (go_step)) | ((first | (with_reducible refine Sl.k_load ?_; ((refine s_ex hst (qt_ldp_list evX asX inX) ?_; rintro v ⟨hvl, hv1⟩))) | (with_reducible refine Sl.k_field ?_; (((refine s_ex hst (qt_fieldp evX asX inX inX rfl) ?_); rintro v hp; (try simp only [Int.toNat_natCast, Int.toNat_natCast_add_one, Int.reduceToNat] at hp)))) | (with_reducible refine Sl.k_call ?_; (refine s_qt hst (by exact qt_len evX asX inX) ?_))) <;> (try refine nY ?_)) | (with_reducible refine Sl.gate rfl ?_; (go_step)))
  refine wp_region_lit ?_
  refine s_ex hst (qt_ldp evX hpe inX) ?_
  rintro v ⟨cl, rfl, hcl⟩
  obtain ⟨u8, p8, rfl, hu8, hp8⟩ := evB_of hcl
  obtain ⟨ua, un, uc, rfl⟩ := rsl_formE hu8
  obtain ⟨pa, pn, pc, rfl⟩ := rsl_formE hp8
  (try refine nY ?_)
  repeat' ((fail_if_success (with_reducible show Code.wp _ (Code.region 8 _ _) _ _ _)); first | ((fail_if_success (go_big_may)); (go_step)) | ((((first | (with_reducible refine Sl.k_store ?_; (refine s_stR hst rfl BoxIn.h evX asX inX rfl rfl ?_); clear hst; intro w hst) | (refine s_alloc hst inX ?_; clear hst; intro bk w hst)))) <;> (try refine nY ?_) <;> (try replace hst := nH hst)))
  rename Nat => b8
  refine wp_region_lit ?_
  refine s_lit (vs := []) (cs := []) hst inX inX rfl rfl (by simp) rfl (by omega) (by omega) ?_
  clear hst; intro x8 w hst
  (try refine nY ?_)
  repeat' (((first | (with_reducible refine Sl.k_load ?_; ((refine s_ex hst (qt_ldp_list evX asX inX) ?_; rintro v ⟨hvl, hv1⟩))) | (with_reducible refine Sl.k_field ?_; (((refine s_ex hst (qt_fieldp evX asX inX inX rfl) ?_); rintro v hp; (try simp only [Int.toNat_natCast, Int.toNat_natCast_add_one, Int.reduceToNat] at hp))))) <;> (try refine nY ?_)))
  refine s_append_data hst evX evX SlIn.h hvl inX inX inX (by decide) (by decide) (by decide) ?_
  clear hst; intro x9 w c9 hc9 hst
  (try refine nY ?_)
  (try replace hst := nH hst)
  simp only [List.length_cons, List.length_nil, Nat.zero_add, Nat.reduceAdd, List.nil_append] at hst
  obtain ⟨xa, xn, xc, rfl⟩ := sl_formk (k := 0) hst rfl
  repeat' ((fail_if_success (with_reducible show Code.wp _ (Code.region 9 _ _) _ _ _)); first | ((fail_if_success (go_big_may)); (go_step)) | (((with_reducible refine Sl.k_field ?_; (refine s_qt hst (qt_field rfl inX) ?_))) <;> (try refine nY ?_)) | (((((with_reducible refine Sl.k_store ?_; (refine s_store hst rfl _ BoxIn.h inX evX rfl lenOk oneOk (by simp) ?_); clear hst; intro w hst)))) <;> (try refine nY ?_) <;> (try replace hst := nH hst)))
  have hc9l : c9.length = 8 := hc9.1
  refine wp_region_lit ?_
  repeat' (((first | (with_reducible refine Sl.k_load ?_; (refine s_qt hst (by exact qt_load rfl _ BoxIn.h inX rfl rfl) ?_)) | (with_reducible refine Sl.k_field ?_; (first | refine s_qt hst (qt_field rfl inX) ?_ | ((refine s_ex hst (qt_field_own evX asX inX) ?_); rintro v hp; (try simp only [Int.toNat_natCast, Int.toNat_natCast_add_one, Int.reduceToNat] at hp)))) | (with_reducible refine Sl.k_index ?_; (((refine s_ex hst (qt_index_own hst evX SlIn.h rfl inX inX omX omX) ?_); rintro v hp; (try simp only [Int.toNat_natCast, Int.toNat_natCast_add_one, Int.reduceToNat] at hp))))) <;> (try refine nY ?_)))
  have hp2 := hp
  rw [Nat.zero_mul, Nat.zero_add] at hp2
  refine s_store_own (u := .int .i64 1) (cs := [.int .i64 1]) hst evX hp2 SlIn.h inX evX rfl rfl rfl (show 2 + 1 ≤ c9.length by omega) ?_
  clear hst; intro w hst
  (try refine nY ?_)
  (try replace hst := nH hst)
  have hq9 := rl_set0 (t := 1) hc9 (i64_litE (by decide))
  obtain ⟨S6, hS6, hst, hx9⟩ := St.freeze (α := Pn) hst hq9 rfl
  replace hpe := hpe.mono hS6
  replace hu8 := hu8.mono hS6
  have hG6 := hG5.mono hS6
  have hRb : Rep.R S6 (evB 9 0 0 0 0 0 0 0 0 0 0 0 0 0 0 0 (.slice ua un uc) (.slice xa xn xc)) ((d9s, logS.map headM, [ptA 1, ptC], ()) : Evd) :=
    prod_mk (r_dgx (d := d9s) rfl) (prod_mk (show Rep.R S6 [.slice ua un uc] (logS.map headM) from ⟨_, rfl, hu8⟩) (prod_mk (show Rep.R S6 [.slice xa xn xc] [ptA 1, ptC] from ⟨_, rfl, hx9⟩) unit_mk))
  repeat' ((fail_if_success (with_reducible show Code.wp _ (Code.region 10 _ _) _ _ _)); ((fail_if_success (go_big_may)); (go_step)))
  refine wp_region_lit ?_
  refine s_ex hst (qt_ldp evX hpe inX) ?_
  rintro v ⟨cl, rfl, hcl2⟩
  obtain ⟨u9, p9, rfl, hu9, hp9⟩ := evB_of hcl2
  obtain ⟨ya, yn, yc, rfl⟩ := rsl_formE hu9
  obtain ⟨za, zn, zc, rfl⟩ := rsl_formE hp9
  (try refine nY ?_)
  repeat' ((fail_if_success (with_reducible show Code.wp _ (Code.region 11 _ _) _ _ _)); first | ((fail_if_success (go_big_may)); (go_step)) | ((((first | (with_reducible refine Sl.k_store ?_; (refine s_stR hst rfl BoxIn.h evX asX inX rfl rfl ?_); clear hst; intro w hst) | (refine s_alloc hst inX ?_; clear hst; intro bk w hst)))) <;> (try refine nY ?_) <;> (try replace hst := nH hst)))
  rename Nat => b9
  refine wp_region_lit ?_
  repeat' (((first | (with_reducible refine Sl.k_load ?_; ((refine s_ex hst (qt_ldp_list evX asX inX) ?_; rintro v ⟨hvl, hv1⟩))) | (with_reducible refine Sl.k_field ?_; (((refine s_ex hst (qt_fieldp evX asX inX inX rfl) ?_); rintro v hp; (try simp only [Int.toNat_natCast, Int.toNat_natCast_add_one, Int.reduceToNat] at hp))))) <;> (try refine nY ?_)))
  refine s_ex hst (qt_slice (a := 0) (b := 1) evX hvl inX inX (.inl ⟨rfl, rfl⟩) (.inr ⟨.i64, by simp [evF, nth]⟩) (.inl rfl) (by omega) (by decide)) ?_
  rintro v64 hv64
  obtain ⟨wa, wn, wc, rfl⟩ := rsl_formE hv64
  (try refine nY ?_)
  repeat' ((fail_if_success (with_reducible show Code.wp _ (Code.region 12 _ _) _ _ _)); first | ((fail_if_success (go_big_may)); (go_step)) | (((with_reducible refine Sl.k_field ?_; (refine s_qt hst (qt_field rfl inX) ?_))) <;> (try refine nY ?_)) | (((((with_reducible refine Sl.k_store ?_; (refine s_store hst rfl _ BoxIn.h inX evX rfl lenOk oneOk (by simp) ?_); clear hst; intro w hst)))) <;> (try refine nY ?_) <;> (try replace hst := nH hst)))
  have hRl : Rep.R S6 (evB 9 0 0 0 0 0 0 0 0 0 0 0 0 0 0 0 (.slice wa wn wc) (.slice za zn zc)) ((d9s, (logS.map headM).take 1, [ptA 3, ptC], ()) : Evd) :=
    prod_mk (r_dgx (d := d9s) rfl) (prod_mk (show Rep.R S6 [.slice wa wn wc] ((logS.map headM).take 1) from ⟨_, rfl, hv64⟩) (prod_mk (show Rep.R S6 [.slice za zn zc] [ptA 3, ptC] from ⟨_, rfl, hp9⟩) unit_mk))
  clear hcl hcl2 hp8 hu8 hu9 hp9 hx9 hc9 hvl hp2 hp
  have hst0 := hst
  clear hst
  obtain ⟨S7, hS7, hst, hpL⟩ := pt_box (α := Evd) hst0 hRl rfl
  clear hst0
  have hst0 := hst
  clear hst
  obtain ⟨S8, hS8, hst, hpB⟩ := pt_box (α := Evd) hst0 (Rep.mono hS7 hRb) rfl
  clear hst0
  generalize Value.pointer (some ⟨b9, 0, none⟩) = pL at *
  generalize Value.pointer (some ⟨b8, 0, none⟩) = pB at *
  replace hpe := hpe.mono (hS7.trans hS8)
  replace hpL := hpL.mono hS8
  have hG8 := hG6.mono (hS7.trans hS8)
  have okX := regE_ok d9s (logS.map headM)
  have okY := regE_ok d9s ((logS.map headM).take 1)
  have hne := regS
  have cX := fun {S : Snap} {M : List Chunk} (w : World) (hst : St S M w) (hG : Glob S) (cs : List Value) (hR : Rep.R S cs evS1) => rgE1_c w hst hG cs hR
  have cY := fun {S : Snap} {M : List Chunk} (w : World) (hst : St S M w) (hG : Glob S) (cs : List Value) (hR : Rep.R S cs ((d9s, (logS.map headM).take 1, [ptA 3, ptC], ()) : Evd)) => rgE3_c w hst hG cs hR
  have cF := fun {S : Snap} {M : List Chunk} (w : World) (hst : St S M w) (hG : Glob S) (vl : Value) (hl : RSl S vl logS) => foS_c w hst hG vl hl
  generalize regE d9s (logS.map headM) = X at *
  generalize regE d9s ((logS.map headM).take 1) = Y at *
  refine v_begin hst (by kernel_rfl) ?_; clear hst; intro ops; (try refine nY ?_)
  (refine t_qt 0 rfl (by kernel_rfl) rfl rfl (by exact qt_move evX) ?_) <;> (try refine nY ?_)
  (refine t_qt 1 rfl (by kernel_rfl) rfl rfl (qt_eql_b rfl rfl (show ((1 : Int) == 1) = true from rfl)) ?_) <;> (try refine nY ?_)
  (refine t_qt 2 rfl (by kernel_rfl) rfl rfl (by exact qt_move evX) ?_) <;> (try refine nY ?_)
  (refine t_qt 3 rfl (by kernel_rfl) rfl rfl (by exact qt_move evX) ?_) <;> (try refine nY ?_)
  ((refine t_qt 4 rfl (by kernel_rfl) rfl rfl (qt_eql_b rfl rfl (show ((1 : Int) == 1) = true from rfl)) ?_)) <;> (try refine nY ?_)
  (refine t_qt 5 rfl (by kernel_rfl) rfl rfl (by exact qt_pick_t rfl evX) ?_) <;> (try refine nY ?_)
  (refine t_qt 6 rfl (by kernel_rfl) rfl rfl (by exact qt_move evX) ?_) <;> (try refine nY ?_)
  (((refine t_ex0 7 rfl (by kernel_rfl) rfl rfl (qt_fieldp evX hpe inX inX rfl ) ?_; rintro  v7 hp7))) <;> (try refine nY ?_)
  (((refine t_ex0 8 rfl (by kernel_rfl) rfl rfl (qt_ldp_list evX hp7 inX ) ?_; rintro  v8 ⟨hv8, hv81⟩))) <;> (try refine nY ?_)
  (((refine t_ex0 9 rfl (by kernel_rfl) rfl rfl (qt_index evX hv8 rfl inX inX (by decide) (by decide) ) ?_; rintro  v9 hp9))) <;> (try refine nY ?_)
  (((refine t_ex0 10 rfl (by kernel_rfl) rfl rfl (qt_fieldp evX hp9 inX inX rfl ) ?_; rintro  v10 hp10))) <;> (try refine nY ?_)
  (((refine t_ex0 11 rfl (by kernel_rfl) rfl rfl (qt_ldp_int evX hp10 inX ) ?_; rintro  v11 ⟨rfl, hI11⟩))) <;> (try refine nY ?_)
  ((refine t_qt 12 rfl (by kernel_rfl) rfl rfl (qt_eql_b rfl rfl (show ((3 : Int) == 3) = true from rfl)) ?_)) <;> (try refine nY ?_)
  (refine t_qt 13 rfl (by kernel_rfl) rfl rfl (by exact qt_pick_t rfl evX) ?_) <;> (try refine nY ?_)
  (refine t_qt 14 rfl (by kernel_rfl) rfl rfl (by exact qt_move evX) ?_) <;> (try refine nY ?_)
  (((refine t_ex0 15 rfl (by kernel_rfl) rfl rfl (qt_ldp evX hpe inX ) ?_; rintro  v15 ⟨cl15, rfl, hcl15⟩))) <;> (try refine nY ?_)
  ((refine t_call 16 rfl (by kernel_rfl) rfl (fun S' M' w hS hM hst => ckE1_c w hst (hG8.mono hS) cl15 (Rep.mono hS hcl15)) inX rfl ?_)) <;> (try refine nY ?_)
  ((refine t_qt 17 rfl (by kernel_rfl) rfl rfl (qt_eql_b rfl rfl (show ((0 : Int) == 0) = true from rfl)) ?_)) <;> (try refine nY ?_)
  (refine t_qt 18 rfl (by kernel_rfl) rfl rfl (by exact qt_pick_t rfl evX) ?_) <;> (try refine nY ?_)
  (refine t_qt 19 rfl (by kernel_rfl) rfl rfl (by exact qt_move evX) ?_) <;> (try refine nY ?_)
  (((refine t_ex0 20 rfl (by kernel_rfl) rfl rfl (qt_ldp evX hpB inX ) ?_; rintro  v20 ⟨cl20, rfl, hcl20⟩))) <;> (try refine nY ?_)
  ((refine t_call 21 rfl (by kernel_rfl) rfl (fun S' M' w hS hM hst => ckE2_c w hst (hG8.mono hS) cl20 (Rep.mono hS hcl20)) inX rfl ?_)) <;> (try refine nY ?_)
  ((refine t_qt 22 rfl (by kernel_rfl) rfl rfl (qt_eql_b rfl rfl (show ((16 : Int) == 16) = true from rfl)) ?_)) <;> (try refine nY ?_)
  (refine t_qt 23 rfl (by kernel_rfl) rfl rfl (by exact qt_pick_t rfl evX) ?_) <;> (try refine nY ?_)
  (refine t_qt 24 rfl (by kernel_rfl) rfl rfl (by exact qt_move evX) ?_) <;> (try refine nY ?_)
  (((refine t_ex0 25 rfl (by kernel_rfl) rfl rfl (qt_ldp evX hpL inX ) ?_; rintro  v25 ⟨cl25, rfl, hcl25⟩))) <;> (try refine nY ?_)
  ((refine t_call 26 rfl (by kernel_rfl) rfl (fun S' M' w hS hM hst => ckE3_c w hst (hG8.mono hS) cl25 (Rep.mono hS hcl25)) inX rfl ?_)) <;> (try refine nY ?_)
  ((refine t_qt 27 rfl (by kernel_rfl) rfl rfl (qt_eql_b rfl rfl (show ((1 : Int) == 1) = true from rfl)) ?_)) <;> (try refine nY ?_)
  (refine t_qt 28 rfl (by kernel_rfl) rfl rfl (by exact qt_pick_t rfl evX) ?_) <;> (try refine nY ?_)
  (refine t_qt 29 rfl (by kernel_rfl) rfl rfl (by exact qt_move evX) ?_) <;> (try refine nY ?_)
  (((refine t_ex0 30 rfl (by kernel_rfl) rfl rfl (qt_ldp evX hpe inX ) ?_; rintro  v30 ⟨cl30, rfl, hcl30⟩))) <;> (try refine nY ?_)
  ((refine t_call 31 rfl (by kernel_rfl) rfl (fun S' M' w hS hM hst => cX w hst (hG8.mono hS) cl30 (Rep.mono hS hcl30)) inX rfl ?_)) <;> (try refine nY ?_)
  (refine t_qt 32 rfl (by kernel_rfl) rfl rfl (by exact qt_loadA evX BoxIn.h inX rfX) ?_) <;> (try refine nY ?_)
  refine v_one 33 rfl (by kernel_rfl) ?_; intro w hst K hK; refine Sl.guard_yes rfl ?_; refine s_call (sample_f w hst) inX rfl ?_; clear hst; rintro v33 w ⟨T33, hT33, hv33, hv331, hst⟩; (try refine nY ?_); (try replace hst := nH hst); refine v_next hK hst hT33 (Suf.refl _) ?_; clear hst hK K; (try clear w); (try refine nY ?_)
  ((refine t_call 34 rfl (by kernel_rfl) rfl (fun S' M' w hS hM hst => cF w hst ((hG8.mono hT33).mono hS) v33 (hv33.mono hS)) inX rfl ?_)) <;> (try refine nY ?_)
  ((refine t_qt 35 rfl (by kernel_rfl) rfl rfl (qt_eqlK_b rfl rfl (r_rg okX) (r_rg okX) inX inX inferInstance (decide_eq_true rfl)) ?_)) <;> (try refine nY ?_)
  (refine t_qt 36 rfl (by kernel_rfl) rfl rfl (by exact qt_pick_t rfl evX) ?_) <;> (try refine nY ?_)
  (refine t_qt 37 rfl (by kernel_rfl) rfl rfl (by exact qt_move evX) ?_) <;> (try refine nY ?_)
  (((refine t_ex0 38 rfl (by kernel_rfl) rfl rfl (qt_ldp evX (hpL.mono hT33) inX ) ?_; rintro  v38 ⟨cl38, rfl, hcl38⟩))) <;> (try refine nY ?_)
  ((refine t_call 39 rfl (by kernel_rfl) rfl (fun S' M' w hS hM hst => cY w hst ((hG8.mono hT33).mono hS) cl38 (Rep.mono hS hcl38)) inX rfl ?_)) <;> (try refine nY ?_)
  (((refine t_ex0 40 rfl (by kernel_rfl) rfl rfl (qt_ldp evX (hpe.mono hT33) inX ) ?_; rintro  v40 ⟨cl40, rfl, hcl40⟩))) <;> (try refine nY ?_)
  ((refine t_call 41 rfl (by kernel_rfl) rfl (fun S' M' w hS hM hst => cX w hst ((hG8.mono hT33).mono hS) cl40 (Rep.mono hS hcl40)) inX rfl ?_)) <;> (try refine nY ?_)
  ((refine t_qt 42 rfl (by kernel_rfl) rfl rfl (qt_neqK_b rfl rfl (r_rg okY) (r_rg okX) inX inX inferInstance (decide_eq_false hne)) ?_)) <;> (try refine nY ?_)
  (refine t_qt 43 rfl (by kernel_rfl) rfl rfl (by exact qt_pick_t rfl evX) ?_) <;> (try refine nY ?_)
  (refine t_qt 44 rfl (by kernel_rfl) rfl rfl (by exact qt_assign evX) ?_) <;> (try refine nY ?_)
  refine v_done (by kernel_rfl) ?_; clear ops; intro w hst
  repeat' (((fail_if_success (go_big_may)); (go_step)))
  go_ret
  exact ⟨_, rfl, rfl, St.weaken ((((hS5.trans hS6).trans hS7).trans hS8).trans hT33) hst.drop⟩
end Go.Proofs.YtgihhhdeoaplhaaDoor

/- Package evidence: how what comes in is read. -/
namespace Go.Proofs.YtgihhhdeoaplhaaDoor
set_option linter.unusedSimpArgs false
set_option linter.unusedVariables false
open Go.RowKit Go.Sl Go.ChangeShapes Go.WideShapes Go.ChangeAt

theorem opens_pair {P : Program} {α : Type} [Rep α] [Siz α] {T E : TypeId} (hT : ArrT P T 2 E) (hz : P.cellsOf E = Rep.z α) (hz' : P.cellsOf T = 2 * Rep.z α) [o : Opens P E α] : Opens P T (α × α) := ⟨fun hx => by
  haveI := opens_array hT hz hz'
  obtain ⟨y, ⟨hl, hR⟩, hs⟩ := Opens.opens (α := Arr α 2) hx
  obtain ⟨l⟩ := y
  match l, hl with
  | [a, b], _ =>
    have h0 := hR.2 0 a rfl
    have h1 := hR.2 1 b rfl
    have hn := hR.1
    simp only [List.length_cons, List.length_nil, Nat.zero_add, Nat.reduceAdd] at hn
    rw [Nat.zero_mul, List.drop_zero] at h0
    rw [Nat.one_mul, List.take_of_length_le (by rw [List.length_drop]; omega)] at h1
    refine ⟨(a, b), ⟨by omega, h0, h1⟩, ?_⟩
    have e : Siz.siz (⟨[a, b]⟩ : Arr α 2) = Siz.siz a + (Siz.siz b + 0) := rfl
    rw [e] at hs
    show Siz.siz a + Siz.siz b ≤ _
    omega⟩
instance opPr : Opens Tryd.prog 58 (Int × Int) := opens_pair inferInstance (by kernel_rfl) (by kernel_rfl)
instance opPrs : Opens Tryd.prog 25 (List (Int × Int)) := opens_list (sl25) (ty58) (by decide)
instance opHds : Opens Tryd.prog 28 (List Hd) := opens_list (sl28) (ty44) (by decide)
instance opPn : Opens Tryd.prog 52 Pn := opens_struct Tryd.underlying52 (by kernel_rfl)
  (openFs_cons rfl (by kernel_rfl) (ob := openFs_cons rfl (by kernel_rfl) (ob := openFs_cons rfl (by kernel_rfl) (ob := openFs_cons rfl (by kernel_rfl) (ob := openFs_nil)))))
instance opPns : Opens Tryd.prog 29 (List Pn) := opens_list (sl29) (ty52) (by decide)
instance opEvd : Opens Tryd.prog 31 Evd := opens_struct Tryd.underlying31 (by kernel_rfl)
  (openFs_cons rfl (by kernel_rfl) (ob := openFs_cons rfl (by kernel_rfl) (ob := openFs_cons rfl (by kernel_rfl) (ob := openFs_nil))))

set_option maxRecDepth 20000 in
theorem open_prs {H : Type} {enc : TypeId × Value → H} {W : World} {base : Nat} {v : Value} {d : DataW H} {p : List MemPlace} (hv : Value.okWide Tryd.prog W .any base 25 v) (h : DataW.Trod enc Tryd.prog W 0 (fun _ => true) true 25 v d p) (hk : Rows.uptoBulk d ≤ 1048576) :
    ∃ xs : List (Int × Int), RSl (snapOf W) v xs ∧ xs.length ≤ 1048576 := by
  obtain ⟨xs, hx, hs⟩ := open_l (α := Int × Int) Tryd.underlying25 hv h
  have := sum_ge (xs := xs) fun x _ => (show 1 ≤ 1 + 1 by omega)
  exact ⟨xs, hx, by omega⟩
set_option maxRecDepth 20000 in
theorem open_evd {H : Type} {enc : TypeId × Value → H} {W : World} {base : Nat} {v : Value} {d : DataW H} {p : List MemPlace} (hv : Value.okWide Tryd.prog W .any base 31 v) (h : DataW.Trod enc Tryd.prog W 0 (fun _ => true) true 31 v d p) :
    ∃ (cs : List Value) (e : Evd), v = .agg cs.toArray ∧ Rep.R (snapOf W) cs e := by
  obtain ⟨cs, rfl, _⟩ := okWide_struct Tryd.underlying31 hv
  obtain ⟨y, hy, _⟩ := open_arg (α := Evd) h
  exact ⟨cs.toList, y, by simp, hy⟩
end Go.Proofs.YtgihhhdeoaplhaaDoor
