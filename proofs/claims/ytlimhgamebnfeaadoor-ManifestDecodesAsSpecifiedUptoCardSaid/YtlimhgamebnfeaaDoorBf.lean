/- Package manifest: decoders walked. -/
import Derived.Deep.Cut
import Derived.Test.YtlimhgamebnfeaaDoorBb
import Derived.Test.YtlimhgamebnfeaaDoorBe

/- Package manifest: the decoder: one element. -/
--@hgp
--@flat
--@dg
--@ex0
namespace Go.Proofs.YtlimhgamebnfeaaDoor
set_option linter.unusedSimpArgs false
set_option linter.unusedVariables false
open Go.RowKit Go.Sl

abbrev decT : TypeId := 121
abbrev dgT : TypeId := 38
abbrev DecC (bd : Nat) (vb : Value) (s : PS) : Chunk := .box bd [vb, .int .i64 (s.2 : Nat)] decT
abbrev dPtr (bd : Nat) : Value := .pointer (some ⟨bd, 0, none⟩)
abbrev DecAt (S : Snap) (M : List Chunk) (bd : Nat) (s : PS) (w : World) : Prop := ∃ a n c, RSl S (.slice a n c) s.1 ∧ St S (DecC bd (.slice a n c) s :: M) w
theorem rsl_form {α : Type} [Rep α] {S : Snap} {v : Value} {xs : List α} (h : RSl S v xs) : ∃ a n c, v = .slice a n c := by
  rcases h with ⟨ad, cap, rfl, _⟩ | ⟨b, o, cap, c, T, fz, rfl, _⟩ <;> exact ⟨_, _, _, rfl⟩
theorem getS_used (b : List UInt8) : (getB b).2.2 = 0 → (getB b).2.1 ≤ b.length := fun h => (getB_canon (b := b) (s := (getB b).1) (used := (getB b).2.1) (by rw [← h])).1
theorem getI_used (b : List UInt8) : (getI b).2.2 = 0 → (getI b).2.1 ≤ b.length := fun _ => (getI_spec b).1
theorem getDg_used (b : List UInt8) : (getDg b).2.2 = 0 → (getDg b).2.1 ≤ b.length := fun h => (getDg_canon (b := b) (d := (getDg b).1) (used := (getDg b).2.1) (by rw [← h])).1
theorem drop_all {b : List UInt8} {a : Nat} : (b.drop a).take (b.length - a) = b.drop a := List.take_of_length_le (by rw [List.length_drop]; exact Nat.le_refl _)

set_option maxRecDepth 8000 in
set_option maxHeartbeats 1000000 in
theorem nextI_c {S M} (w : World) (bd : Nat) (a : Option Addr) (n c : Nat) (s : PS) (hvb : RSl S (.slice a n c) s.1) (hm : s.1.length ≤ 1048576) (hst : St S (DecC bd (.slice a n c) s :: M) w) :
    Rets Tryd.prog 80 [dPtr bd, .func (.func 81) #[] #[]] w fun v w' => v = .int .i64 (nxt 0 getI s).1 ∧ DecAt S M bd (nxt 0 getI s).2 w' := by
  unfold Rets
  obtain ⟨b, e⟩ := s
  simp only at hvb hm
  simp only [DecC] at hst
  by_cases he : e = 0
  · subst he
    have hu := getI_used b
    have cg := fun {M : List Chunk} (w : World) (hst : St S M w) => getInt_c w hst (.slice a n c) b hvb hm
    unfold triple at cg
    obtain ⟨⟨x, used, e⟩, hr⟩ : ∃ r, getI b = r := ⟨_, rfl⟩
    rw [hr] at hu cg
    simp only at hu cg
    by_cases h2 : e = 0
    · subst h2
      have hu' := hu rfl
      rw [nxt_yes (s := (b, 0)) rfl hr]
      go_enter Tryd.func80, Tryd.ntmps80
      repeat' (first | (((with_reducible refine Sl.k_call ?_; ((refine s_callv (cg _ hst) rfl inX rfl rfl ?_; clear hst; rintro v w ⟨rfl, hst⟩)))) <;> (try refine nX ?_) <;> (try replace hst := nH hst)) | ((fail_if_success (go_big_may)); (go_step)) | ((first | (with_reducible refine Sl.k_load ?_; (refine s_qt hst (by exact qt_load rfl _ BoxIn.h inX rfl rfl) ?_)) | (with_reducible refine Sl.k_field ?_; (refine s_qt hst (qt_field rfl inX) ?_))) <;> (try refine nX ?_)) | (with_reducible refine Sl.gate rfl ?_; (go_step)))
      refine s_slice (a := used) (b := b.length) evX hvb inX inX (.inr ⟨.i64, by simp [evF, nth]⟩) (.inl ⟨rfl, rfl⟩) (.inl rfl) (by omega) (by omega) ?_
      intro vz hvz
      rw [drop_all] at hvz
      obtain ⟨az, nz, cz, rfl⟩ := rsl_form hvz
      (try refine nX ?_)
      repeat' (first | ((fail_if_success (go_big_may)); (go_step)) | (((with_reducible refine Sl.k_field ?_; (refine s_qt hst (qt_field rfl inX) ?_))) <;> (try refine nX ?_)) | (with_reducible refine Sl.gate rfl ?_; (go_step)) | (((((with_reducible refine Sl.k_store ?_; (refine s_store hst rfl _ BoxIn.h inX evX rfl lenOk oneOk (by simp) ?_); clear hst; intro w hst)))) <;> (try refine nX ?_) <;> (try replace hst := nH hst)))
      go_ret
      exact ⟨_, rfl, rfl, _, _, _, hvz, hst⟩
    · have h3 : (e : Int) ≠ 0 := by omega
      rw [nxt_no (s := (b, 0)) rfl hr h2]
      go_enter Tryd.func80, Tryd.ntmps80
      repeat' (first | (((with_reducible refine Sl.k_call ?_; ((refine s_callv (cg _ hst) rfl inX rfl rfl ?_; clear hst; rintro v w ⟨rfl, hst⟩)))) <;> (try refine nX ?_) <;> (try replace hst := nH hst)) | ((fail_if_success (go_big_may)); (go_step)) | ((first | (with_reducible refine Sl.k_load ?_; (refine s_qt hst (by exact qt_load rfl _ BoxIn.h inX rfl rfl) ?_)) | (with_reducible refine Sl.k_field ?_; (refine s_qt hst (qt_field rfl inX) ?_))) <;> (try refine nX ?_)) | (with_reducible refine Sl.gate rfl ?_; (go_step)) | (((((with_reducible refine Sl.k_store ?_; (refine s_store hst rfl _ BoxIn.h inX evX rfl lenOk oneOk (by simp) ?_); clear hst; intro w hst)))) <;> (try refine nX ?_) <;> (try replace hst := nH hst)))
      go_ret
      exact ⟨_, rfl, rfl, a, n, c, hvb, hst⟩
  · have h3 : (e : Int) ≠ 0 := by omega
    rw [nxt_err (s := (b, e)) he]
    go_enter Tryd.func80, Tryd.ntmps80
    repeat' (first | ((fail_if_success (go_big_may)); (go_step)) | ((first | (with_reducible refine Sl.k_load ?_; (refine s_qt hst (by exact qt_load rfl _ BoxIn.h inX rfl rfl) ?_)) | (with_reducible refine Sl.k_field ?_; (refine s_qt hst (qt_field rfl inX) ?_))) <;> (try refine nX ?_)) | (with_reducible refine Sl.gate rfl ?_; (go_step)))
    go_ret
    exact ⟨_, rfl, rfl, a, n, c, hvb, hst⟩

set_option maxRecDepth 8000 in
set_option maxHeartbeats 1000000 in
theorem nextS_c {S M} (w : World) (bd : Nat) (a : Option Addr) (n c : Nat) (s : PS) (hvb : RSl S (.slice a n c) s.1) (hm : s.1.length ≤ 1048576) (hst : St S (DecC bd (.slice a n c) s :: M) w) :
    Rets Tryd.prog 100 [dPtr bd, .func (.func 101) #[] #[]] w fun v w' => v = StrV (nxt ⟨[]⟩ getS s).1.b ∧ DecAt S M bd (nxt ⟨[]⟩ getS s).2 w' := by
  unfold Rets
  obtain ⟨b, e⟩ := s
  simp only at hvb hm
  simp only [DecC] at hst
  by_cases he : e = 0
  · subst he
    have hu := getS_used b
    have cg := fun {M : List Chunk} (w : World) (hst : St S M w) => getBytes_c w hst (.slice a n c) b hvb hm
    obtain ⟨⟨x, used, e⟩, hr⟩ : ∃ r, getB b = r := ⟨_, rfl⟩
    have hr' : getS b = (⟨x⟩, used, e) := by unfold getS; rw [hr]
    rw [hr] at hu cg
    simp only at hu cg
    by_cases h2 : e = 0
    · subst h2
      have hu' := hu rfl
      rw [nxt_yes (s := (b, 0)) rfl hr']
      go_enter Tryd.func100, Tryd.ntmps100
      repeat' (first | (((with_reducible refine Sl.k_call ?_; ((refine s_callv (cg _ hst) rfl inX rfl rfl ?_; clear hst; rintro v w ⟨rfl, hst⟩)))) <;> (try refine nX ?_) <;> (try replace hst := nH hst)) | ((fail_if_success (go_big_may)); (go_step)) | ((first | (with_reducible refine Sl.k_load ?_; (refine s_qt hst (by exact qt_load rfl _ BoxIn.h inX rfl rfl) ?_)) | (with_reducible refine Sl.k_field ?_; (refine s_qt hst (qt_field rfl inX) ?_))) <;> (try refine nX ?_)) | (with_reducible refine Sl.gate rfl ?_; (go_step)))
      refine s_slice (a := used) (b := b.length) evX hvb inX inX (.inr ⟨.i64, by simp [evF, nth]⟩) (.inl ⟨rfl, rfl⟩) (.inl rfl) (by omega) (by omega) ?_
      intro vz hvz
      rw [drop_all] at hvz
      obtain ⟨az, nz, cz, rfl⟩ := rsl_form hvz
      (try refine nX ?_)
      repeat' (first | ((fail_if_success (go_big_may)); (go_step)) | (((with_reducible refine Sl.k_field ?_; (refine s_qt hst (qt_field rfl inX) ?_))) <;> (try refine nX ?_)) | (with_reducible refine Sl.gate rfl ?_; (go_step)) | (((((with_reducible refine Sl.k_store ?_; (refine s_store hst rfl _ BoxIn.h inX evX rfl lenOk oneOk (by simp) ?_); clear hst; intro w hst)))) <;> (try refine nX ?_) <;> (try replace hst := nH hst)))
      go_ret
      exact ⟨_, rfl, rfl, _, _, _, hvz, hst⟩
    · have h3 : (e : Int) ≠ 0 := by omega
      rw [nxt_no (s := (b, 0)) rfl hr' h2]
      go_enter Tryd.func100, Tryd.ntmps100
      repeat' (first | (((with_reducible refine Sl.k_call ?_; ((refine s_callv (cg _ hst) rfl inX rfl rfl ?_; clear hst; rintro v w ⟨rfl, hst⟩)))) <;> (try refine nX ?_) <;> (try replace hst := nH hst)) | ((fail_if_success (go_big_may)); (go_step)) | ((first | (with_reducible refine Sl.k_load ?_; (refine s_qt hst (by exact qt_load rfl _ BoxIn.h inX rfl rfl) ?_)) | (with_reducible refine Sl.k_field ?_; (refine s_qt hst (qt_field rfl inX) ?_))) <;> (try refine nX ?_)) | (with_reducible refine Sl.gate rfl ?_; (go_step)) | (((((with_reducible refine Sl.k_store ?_; (refine s_store hst rfl _ BoxIn.h inX evX rfl lenOk oneOk (by simp) ?_); clear hst; intro w hst)))) <;> (try refine nX ?_) <;> (try replace hst := nH hst)))
      go_ret
      exact ⟨_, rfl, rfl, a, n, c, hvb, hst⟩
  · have h3 : (e : Int) ≠ 0 := by omega
    rw [nxt_err (s := (b, e)) he]
    go_enter Tryd.func100, Tryd.ntmps100
    repeat' (first | ((fail_if_success (go_big_may)); (go_step)) | ((first | (with_reducible refine Sl.k_load ?_; (refine s_qt hst (by exact qt_load rfl _ BoxIn.h inX rfl rfl) ?_)) | (with_reducible refine Sl.k_field ?_; (refine s_qt hst (qt_field rfl inX) ?_))) <;> (try refine nX ?_)) | (with_reducible refine Sl.gate rfl ?_; (go_step)))
    go_ret
    exact ⟨_, rfl, rfl, a, n, c, hvb, hst⟩

set_option maxRecDepth 8000 in
set_option maxHeartbeats 1000000 in
theorem nextD_c {S M} (w : World) (bd : Nat) (a : Option Addr) (n c : Nat) (s : PS) (hvb : RSl S (.slice a n c) s.1) (hm : s.1.length ≤ 1048576) (hst : St S (DecC bd (.slice a n c) s :: M) w) :
    Rets Tryd.prog 96 [dPtr bd, .func (.func 97) #[] #[]] w fun v w' => ∃ S' a0 n0 c0, S.Le S' ∧ v = .slice a0 n0 c0 ∧ RSl S' v (nxt [] getDg s).1 ∧ DecAt S' M bd (nxt [] getDg s).2 w' := by
  unfold Rets
  obtain ⟨b, e⟩ := s
  simp only at hvb hm
  simp only [DecC] at hst
  by_cases he : e = 0
  · subst he
    have hu := getDg_used b
    have cg := fun {M : List Chunk} (w : World) (hst : St S M w) => getDigs_c w hst (.slice a n c) b hvb hm
    have h16 := getDg_16 b
    unfold digsPost at cg
    obtain ⟨⟨x, used, e⟩, hr⟩ : ∃ r, getDg b = r := ⟨_, rfl⟩
    rw [hr] at hu cg h16
    simp only at hu cg h16
    by_cases h2 : e = 0
    · subst h2
      have hu' := hu rfl
      rw [nxt_yes (s := (b, 0)) rfl hr]
      go_enter Tryd.func96, Tryd.ntmps96
      repeat' ((fail_if_success (with_reducible show Code.wp _ (Code.region 4 _ _) _ _ _)); first | ((fail_if_success (go_big_may)); (go_step)) | ((first | (with_reducible refine Sl.k_load ?_; (refine s_qt hst (by exact qt_load rfl _ BoxIn.h inX rfl rfl) ?_)) | (with_reducible refine Sl.k_field ?_; (refine s_qt hst (qt_field rfl inX) ?_))) <;> (try refine nX ?_)) | (with_reducible refine Sl.gate rfl ?_; (go_step)))
      repeat' (first | (with_reducible refine Sl.k_call ?_; ((refine s_callv (cg _ hst) rfl inX rfl rfl ?_; clear hst; rintro _ w ⟨u, rfl, hstA⟩; obtain ⟨ua, un, uc, rfl⟩ := sl_form hstA; obtain ⟨S2, hS2, hst, hvu⟩ := St.freeze (α := Dg) hstA (rl_digs h16) rfl; clear hstA; replace hvb := hvb.mono hS2; (try refine nX ?_)))) | ((fail_if_success (go_big_may)); (go_step)) | ((first | (with_reducible refine Sl.k_load ?_; (refine s_qt hst (by exact qt_load rfl _ BoxIn.h inX rfl rfl) ?_)) | (with_reducible refine Sl.k_field ?_; (refine s_qt hst (qt_field rfl inX) ?_))) <;> (try refine nX ?_)) | (with_reducible refine Sl.gate rfl ?_; (go_step)))
      refine s_slice (a := used) (b := b.length) evX hvb inX inX (.inr ⟨.i64, by simp [evF, nth]⟩) (.inl ⟨rfl, rfl⟩) (.inl rfl) (by omega) (by omega) ?_
      intro vz hvz
      rw [drop_all] at hvz
      obtain ⟨az, nz, cz, rfl⟩ := rsl_form hvz
      (try refine nX ?_)
      repeat' (first | ((fail_if_success (go_big_may)); (go_step)) | (((with_reducible refine Sl.k_field ?_; (refine s_qt hst (qt_field rfl inX) ?_))) <;> (try refine nX ?_)) | (with_reducible refine Sl.gate rfl ?_; (go_step)) | (((((with_reducible refine Sl.k_store ?_; (refine s_store hst rfl _ BoxIn.h inX evX rfl lenOk oneOk (by simp) ?_); clear hst; intro w hst)))) <;> (try refine nX ?_) <;> (try replace hst := nH hst)))
      go_ret
      exact ⟨_, rfl, S2, _, _, _, hS2, rfl, hvu, _, _, _, hvz, hst⟩
    · have h3 : (e : Int) ≠ 0 := by omega
      rw [nxt_no (s := (b, 0)) rfl hr h2]
      go_enter Tryd.func96, Tryd.ntmps96
      repeat' ((fail_if_success (with_reducible show Code.wp _ (Code.region 4 _ _) _ _ _)); first | ((fail_if_success (go_big_may)); (go_step)) | ((first | (with_reducible refine Sl.k_load ?_; (refine s_qt hst (by exact qt_load rfl _ BoxIn.h inX rfl rfl) ?_)) | (with_reducible refine Sl.k_field ?_; (refine s_qt hst (qt_field rfl inX) ?_))) <;> (try refine nX ?_)) | (with_reducible refine Sl.gate rfl ?_; (go_step)))
      repeat' (first | (with_reducible refine Sl.k_call ?_; ((refine s_callv (cg _ hst) rfl inX rfl rfl ?_; clear hst; rintro _ w ⟨u, rfl, hst⟩; replace hst := hst.drop; (try refine nX ?_)))) | ((fail_if_success (go_big_may)); (go_step)) | ((first | (with_reducible refine Sl.k_load ?_; (refine s_qt hst (by exact qt_load rfl _ BoxIn.h inX rfl rfl) ?_)) | (with_reducible refine Sl.k_field ?_; (refine s_qt hst (qt_field rfl inX) ?_))) <;> (try refine nX ?_)) | (with_reducible refine Sl.gate rfl ?_; (go_step)) | (((((with_reducible refine Sl.k_store ?_; (refine s_store hst rfl _ BoxIn.h inX evX rfl lenOk oneOk (by simp) ?_); clear hst; intro w hst)))) <;> (try refine nX ?_) <;> (try replace hst := nH hst)))
      go_ret
      exact ⟨_, rfl, S, _, _, _, Snap.Le.refl _, rfl, nilSl, a, n, c, hvb, hst⟩
  · have h3 : (e : Int) ≠ 0 := by omega
    rw [nxt_err (s := (b, e)) he]
    go_enter Tryd.func96, Tryd.ntmps96
    repeat' (first | ((fail_if_success (go_big_may)); (go_step)) | ((first | (with_reducible refine Sl.k_load ?_; (refine s_qt hst (by exact qt_load rfl _ BoxIn.h inX rfl rfl) ?_)) | (with_reducible refine Sl.k_field ?_; (refine s_qt hst (qt_field rfl inX) ?_))) <;> (try refine nX ?_)) | (with_reducible refine Sl.gate rfl ?_; (go_step)))
    go_ret
    exact ⟨_, rfl, S, _, _, _, Snap.Le.refl _, rfl, nilSl, a, n, c, hvb, hst⟩

end Go.Proofs.YtlimhgamebnfeaaDoor

/- Package manifest: the decoder: manifests, keysets, signatures, texts. -/
--@hgp
--@flat
--@dg
--@ex0
namespace Go.Proofs.YtlimhgamebnfeaaDoor
set_option linter.unusedSimpArgs false
set_option linter.unusedVariables false
open Go.RowKit Go.Sl

theorem r_list {α : Type} [Rep α] {S : Snap} {v : Value} {xs : List α} (h : RSl S v xs) : Rep.R S [v] xs := ⟨v, rfl, h⟩
theorem r_mf {S : Snap} {x1 x2 x3 : Int} {v : Value} {ds : List Dg} (h1 : I64 x1) (h2 : I64 x2) (h3 : I64 x3) (hv : RSl S v ds) : Rep.R S [.int .i64 x1, .int .i64 x2, .int .i64 x3, v] ((x1, x2, x3, ds, ()) : MF) :=
  prod_mk (cs := [_]) ⟨rfl, h1⟩ (prod_mk (cs := [_]) ⟨rfl, h2⟩ (prod_mk (cs := [_]) ⟨rfl, h3⟩ (prod_mk (cs := [_]) (r_list hv) unit_mk)))
theorem r_sd {S : Snap} {x1 x2 : Int} {v u : Value} {ds es : List Dg} (h1 : I64 x1) (h2 : I64 x2) (hv : RSl S v ds) (hu : RSl S u es) : Rep.R S [.int .i64 x1, .int .i64 x2, v, u] ((x1, (x2, ds, es, ()), ()) : SD) :=
  prod_mk (cs := [_]) ⟨rfl, h1⟩ (prod_mk (cs := [_, _, _]) (prod_mk (cs := [_]) ⟨rfl, h2⟩ (prod_mk (cs := [_]) (r_list hv) (prod_mk (cs := [_]) (r_list hu) unit_mk))) unit_mk)

set_option maxRecDepth 8000 in
set_option maxHeartbeats 1000000 in
theorem digests_c {S M} (w : World) (bd : Nat) (a : Option Addr) (n c : Nat) (s : PS) (hvb : RSl S (.slice a n c) s.1) (hm : s.1.length ≤ 1048576) (hst : St S (DecC bd (.slice a n c) s :: M) w) :
    Rets Tryd.prog 82 [dPtr bd] w fun v w' => ∃ S' a0 n0 c0, S.Le S' ∧ v = .slice a0 n0 c0 ∧ RSl S' v (nxt [] getDg s).1 ∧ DecAt S' M bd (nxt [] getDg s).2 w' := by
  unfold Rets
  obtain ⟨⟨ds, s1⟩, e1⟩ : ∃ r, nxt [] getDg s = r := ⟨_, rfl⟩
  have c1 := nextD_c w bd a n c s hvb hm hst
  rw [e1] at c1 ⊢
  by_cases hd : ds = []
  · subst hd
    go_enter Tryd.func82, Tryd.ntmps82
    repeat' (first | (((with_reducible refine Sl.k_call ?_; ((refine s_call (c1) inX rfl ?_; clear hst; rintro v w ⟨S2, a0, n0, c0, hS2, rfl, hv, a1, n1, c1, hvb1, hst⟩)))) <;> (try refine nX ?_) <;> (try replace hst := nH hst)) | ((fail_if_success (go_big_may)); (go_step)) | (((with_reducible refine Sl.k_call ?_; (refine s_qt hst (by exact qt_len evX asX inX) ?_))) <;> (try refine nX ?_)) | (with_reducible refine Sl.gate rfl ?_; (go_step)))
    go_ret
    exact ⟨_, rfl, S2, _, _, _, hS2, rfl, nilSl, a1, n1, c1, hvb1, hst⟩
  · have hl : 0 < ds.length := List.length_pos_iff.2 hd
    go_enter Tryd.func82, Tryd.ntmps82
    repeat' (first | (((with_reducible refine Sl.k_call ?_; ((refine s_call (c1) inX rfl ?_; clear hst; rintro v w ⟨S2, a0, n0, c0, hS2, rfl, hv, a1, n1, c1, hvb1, hst⟩)))) <;> (try refine nX ?_) <;> (try replace hst := nH hst)) | ((fail_if_success (go_big_may)); (go_step)) | (((with_reducible refine Sl.k_call ?_; (refine s_qt hst (by exact qt_len evX asX inX) ?_))) <;> (try refine nX ?_)) | (with_reducible refine Sl.gate rfl ?_; (go_step)))
    go_ret
    exact ⟨_, rfl, S2, _, _, _, hS2, rfl, hv, a1, n1, c1, hvb1, hst⟩
set_option maxRecDepth 8000 in
set_option maxHeartbeats 1000000 in
theorem stage_c {S M} (w : World) (bd : Nat) (a : Option Addr) (n c : Nat) (s : PS) (hvb : RSl S (.slice a n c) s.1) (hm : s.1.length ≤ 1048576) (hst : St S (DecC bd (.slice a n c) s :: M) w) :
    Rets Tryd.prog 86 [dPtr bd] w fun v w' => v = StrV (nxt ⟨[]⟩ getS s).1.b ∧ DecAt S M bd (nxt ⟨[]⟩ getS s).2 w' := by
  unfold Rets
  have c1 := nextS_c w bd a n c s hvb hm hst
  generalize nxt ⟨[]⟩ getS s = r at *
  go_enter Tryd.func86, Tryd.ntmps86
  repeat' (first | (((with_reducible refine Sl.k_call ?_; ((refine s_call (c1) inX rfl ?_; clear hst; rintro v w ⟨rfl, a1, n1, c1, hvb1, hst⟩)))) <;> (try refine nX ?_) <;> (try replace hst := nH hst)) | ((fail_if_success (go_big_may)); (go_step)))
  go_ret
  exact ⟨_, rfl, rfl, a1, n1, c1, hvb1, hst⟩
abbrev MfPost (S : Snap) (M : List Chunk) (bd : Nat) (r : MF × PS) (v : Value) (w : World) : Prop :=
  ∃ S' x1 x2 x3 a0 n0 c0, S.Le S' ∧ v = .agg #[.int .i64 x1, .int .i64 x2, .int .i64 x3, .slice a0 n0 c0] ∧ Rep.R S' [.int .i64 x1, .int .i64 x2, .int .i64 x3, .slice a0 n0 c0] r.1 ∧ DecAt S' M bd r.2 w
set_option maxRecDepth 8000 in
set_option maxHeartbeats 1000000 in
theorem dmf_c {S M} (w : World) (bd : Nat) (a : Option Addr) (n c : Nat) (s : PS) (hvb : RSl S (.slice a n c) s.1) (hm : s.1.length ≤ 1048576) (hst : St S (DecC bd (.slice a n c) s :: M) w) :
    Rets Tryd.prog 57 [dPtr bd] w fun v w' => MfPost S M bd (mfP s) v w' := by
  unfold Rets
  obtain ⟨⟨x1, s1⟩, e1⟩ : ∃ r, nxt 0 getI s = r := ⟨_, rfl⟩
  obtain ⟨⟨x2, s2⟩, e2⟩ : ∃ r, nxt 0 getI s1 = r := ⟨_, rfl⟩
  obtain ⟨⟨x3, s3⟩, e3⟩ : ∃ r, nxt 0 getI s2 = r := ⟨_, rfl⟩
  obtain ⟨⟨ds, s4⟩, e4⟩ : ∃ r, nxt [] getDg s3 = r := ⟨_, rfl⟩
  have e : mfP s = ((x1, x2, x3, ds, ()), s4) := by unfold mfP pairP unitP; simp only [e1, e2, e3, e4]
  rw [e]
  have i1 := nxt_i64 s
  have i2 := nxt_i64 s1
  have i3 := nxt_i64 s2
  have l1 := nxt_shr 0 getI s
  have l2 := nxt_shr 0 getI s1
  have l3 := nxt_shr 0 getI s2
  have d1 := fun {S : Snap} {M : List Chunk} (w : World) (a : Option Addr) (n c : Nat) (hvb : RSl S (.slice a n c) s.1) hm (hst : St S (DecC bd (.slice a n c) s :: M) w) => nextI_c w bd a n c s hvb hm hst
  have d2 := fun {S : Snap} {M : List Chunk} (w : World) (a : Option Addr) (n c : Nat) (hvb : RSl S (.slice a n c) s1.1) hm (hst : St S (DecC bd (.slice a n c) s1 :: M) w) => nextI_c w bd a n c s1 hvb hm hst
  have d3 := fun {S : Snap} {M : List Chunk} (w : World) (a : Option Addr) (n c : Nat) (hvb : RSl S (.slice a n c) s2.1) hm (hst : St S (DecC bd (.slice a n c) s2 :: M) w) => nextI_c w bd a n c s2 hvb hm hst
  have d4 := fun {S : Snap} {M : List Chunk} (w : World) (a : Option Addr) (n c : Nat) (hvb : RSl S (.slice a n c) s3.1) hm (hst : St S (DecC bd (.slice a n c) s3 :: M) w) => digests_c w bd a n c s3 hvb hm hst
  rw [e1] at d1 i1 l1
  rw [e2] at d2 i2 l2
  rw [e3] at d3 i3 l3
  rw [e4] at d4
  simp only at d1 d2 d3 d4 i1 i2 i3 l1 l2 l3
  clear e e1 e2 e3 e4
  go_enter Tryd.func57, Tryd.ntmps57
  repeat' ((fail_if_success (with_reducible show Code.wp _ (Code.region 1 _ _) _ _ _)); first | ((fail_if_success (go_big_may)); (go_step)) | (((((refine s_alloc hst inX ?_; clear hst; intro bk w hst)))) <;> (try refine nX ?_) <;> (try replace hst := nH hst)))
  have hst := hst.perm (List.Perm.swap _ _ _)
  repeat' ((fail_if_success (with_reducible show Code.wp _ (Code.region 2 _ _) _ _ _)); first | (((with_reducible refine Sl.k_call ?_; (first | (refine s_call (d1 _ _ _ _ hvb hm hst) inX rfl ?_; clear hst; rintro v w ⟨rfl, a1, n1, c1, hvb1, hst⟩) | (refine s_call (d2 _ _ _ _ hvb1 (by omega) hst) inX rfl ?_; clear hst; rintro v w ⟨rfl, a2, n2, c2, hvb2, hst⟩) | (refine s_call (d3 _ _ _ _ hvb2 (by omega) hst) inX rfl ?_; clear hst; rintro v w ⟨rfl, a3, n3, c3, hvb3, hst⟩)))) <;> (try refine nX ?_) <;> (try replace hst := nH hst)) | ((fail_if_success (go_big_may)); (go_step)))
  repeat' (first | (((with_reducible refine Sl.k_call ?_; ((refine s_call (d4 _ _ _ _ hvb3 (by omega) hst) inX rfl ?_; clear hst; rintro v w ⟨S2, a0, n0, c0, hS2, rfl, hv, a4, n4, c4, hvb4, hst⟩)))) <;> (try refine nX ?_) <;> (try replace hst := nH hst)) | ((fail_if_success (go_big_may)); (go_step)) | (with_reducible refine Sl.gate rfl ?_; (go_step)) | (((((with_reducible refine Sl.k_store ?_; (refine s_store hst rfl _ BoxIn.h inX evX rfl lenOk oneOk (by simp) ?_); clear hst; intro w hst)))) <;> (try refine nX ?_) <;> (try replace hst := nH hst)))
  refine ret_cell rfl hst rfl 1 rfl inferInstance rfl rfl ?_
  exact ⟨_, rfl, S2, x1, x2, x3, a0, n0, c0, hS2, rfl, r_mf i1 i2 i3 hv, a4, n4, c4, hvb4, (hst.perm (List.Perm.swap _ _ _)).drop⟩

set_option maxRecDepth 8000 in
set_option maxHeartbeats 1000000 in
theorem dks_c {S M} (w : World) (bd : Nat) (a : Option Addr) (n c : Nat) (s : PS) (hvb : RSl S (.slice a n c) s.1) (hm : s.1.length ≤ 1048576) (hst : St S (DecC bd (.slice a n c) s :: M) w) :
    Rets Tryd.prog 61 [dPtr bd] w fun v w' => MfPost S M bd (mfP s) v w' := by
  unfold Rets
  obtain ⟨⟨x1, s1⟩, e1⟩ : ∃ r, nxt 0 getI s = r := ⟨_, rfl⟩
  obtain ⟨⟨x2, s2⟩, e2⟩ : ∃ r, nxt 0 getI s1 = r := ⟨_, rfl⟩
  obtain ⟨⟨x3, s3⟩, e3⟩ : ∃ r, nxt 0 getI s2 = r := ⟨_, rfl⟩
  obtain ⟨⟨ds, s4⟩, e4⟩ : ∃ r, nxt [] getDg s3 = r := ⟨_, rfl⟩
  have e : mfP s = ((x1, x2, x3, ds, ()), s4) := by unfold mfP pairP unitP; simp only [e1, e2, e3, e4]
  rw [e]
  have i1 := nxt_i64 s
  have i2 := nxt_i64 s1
  have i3 := nxt_i64 s2
  have l1 := nxt_shr 0 getI s
  have l2 := nxt_shr 0 getI s1
  have l3 := nxt_shr 0 getI s2
  have d1 := fun {S : Snap} {M : List Chunk} (w : World) (a : Option Addr) (n c : Nat) (hvb : RSl S (.slice a n c) s.1) hm (hst : St S (DecC bd (.slice a n c) s :: M) w) => nextI_c w bd a n c s hvb hm hst
  have d2 := fun {S : Snap} {M : List Chunk} (w : World) (a : Option Addr) (n c : Nat) (hvb : RSl S (.slice a n c) s1.1) hm (hst : St S (DecC bd (.slice a n c) s1 :: M) w) => nextI_c w bd a n c s1 hvb hm hst
  have d3 := fun {S : Snap} {M : List Chunk} (w : World) (a : Option Addr) (n c : Nat) (hvb : RSl S (.slice a n c) s2.1) hm (hst : St S (DecC bd (.slice a n c) s2 :: M) w) => nextI_c w bd a n c s2 hvb hm hst
  have d4 := fun {S : Snap} {M : List Chunk} (w : World) (a : Option Addr) (n c : Nat) (hvb : RSl S (.slice a n c) s3.1) hm (hst : St S (DecC bd (.slice a n c) s3 :: M) w) => digests_c w bd a n c s3 hvb hm hst
  rw [e1] at d1 i1 l1
  rw [e2] at d2 i2 l2
  rw [e3] at d3 i3 l3
  rw [e4] at d4
  simp only at d1 d2 d3 d4 i1 i2 i3 l1 l2 l3
  clear e e1 e2 e3 e4
  go_enter Tryd.func61, Tryd.ntmps61
  repeat' ((fail_if_success (with_reducible show Code.wp _ (Code.region 1 _ _) _ _ _)); first | ((fail_if_success (go_big_may)); (go_step)) | (((((refine s_alloc hst inX ?_; clear hst; intro bk w hst)))) <;> (try refine nX ?_) <;> (try replace hst := nH hst)))
  have hst := hst.perm (List.Perm.swap _ _ _)
  repeat' ((fail_if_success (with_reducible show Code.wp _ (Code.region 2 _ _) _ _ _)); first | (((with_reducible refine Sl.k_call ?_; (first | (refine s_call (d1 _ _ _ _ hvb hm hst) inX rfl ?_; clear hst; rintro v w ⟨rfl, a1, n1, c1, hvb1, hst⟩) | (refine s_call (d2 _ _ _ _ hvb1 (by omega) hst) inX rfl ?_; clear hst; rintro v w ⟨rfl, a2, n2, c2, hvb2, hst⟩) | (refine s_call (d3 _ _ _ _ hvb2 (by omega) hst) inX rfl ?_; clear hst; rintro v w ⟨rfl, a3, n3, c3, hvb3, hst⟩)))) <;> (try refine nX ?_) <;> (try replace hst := nH hst)) | ((fail_if_success (go_big_may)); (go_step)))
  repeat' (first | (((with_reducible refine Sl.k_call ?_; ((refine s_call (d4 _ _ _ _ hvb3 (by omega) hst) inX rfl ?_; clear hst; rintro v w ⟨S2, a0, n0, c0, hS2, rfl, hv, a4, n4, c4, hvb4, hst⟩)))) <;> (try refine nX ?_) <;> (try replace hst := nH hst)) | ((fail_if_success (go_big_may)); (go_step)) | (with_reducible refine Sl.gate rfl ?_; (go_step)) | (((((with_reducible refine Sl.k_store ?_; (refine s_store hst rfl _ BoxIn.h inX evX rfl lenOk oneOk (by simp) ?_); clear hst; intro w hst)))) <;> (try refine nX ?_) <;> (try replace hst := nH hst)))
  refine ret_cell rfl hst rfl 1 rfl inferInstance rfl rfl ?_
  exact ⟨_, rfl, S2, x1, x2, x3, a0, n0, c0, hS2, rfl, r_mf i1 i2 i3 hv, a4, n4, c4, hvb4, (hst.perm (List.Perm.swap _ _ _)).drop⟩

end Go.Proofs.YtlimhgamebnfeaaDoor

/- Package manifest: the decoder: signatures; lists. -/
--@hgp
--@flat
--@dg
--@ex0
namespace Go.Proofs.YtlimhgamebnfeaaDoor
set_option linter.unusedSimpArgs false
set_option linter.unusedVariables false
open Go.RowKit Go.Sl

abbrev SdPost (S : Snap) (M : List Chunk) (bd : Nat) (r : SD × PS) (v : Value) (w : World) : Prop :=
  ∃ S' x1 x2 a0 n0 c0 a1 n1 c1, S.Le S' ∧ v = .agg #[.int .i64 x1, .int .i64 x2, .slice a0 n0 c0, .slice a1 n1 c1] ∧ Rep.R S' [.int .i64 x1, .int .i64 x2, .slice a0 n0 c0, .slice a1 n1 c1] r.1 ∧ DecAt S' M bd r.2 w
set_option maxRecDepth 8000 in
set_option maxHeartbeats 1000000 in
theorem dsig_c {S M} (w : World) (bd : Nat) (a : Option Addr) (n c : Nat) (s : PS) (hvb : RSl S (.slice a n c) s.1) (hm : s.1.length ≤ 1048576) (hst : St S (DecC bd (.slice a n c) s :: M) w) :
    Rets Tryd.prog 85 [dPtr bd] w fun v w' => SdPost S M bd (sdP s) v w' := by
  unfold Rets
  obtain ⟨⟨x1, s1⟩, e1⟩ : ∃ r, nxt 0 getI s = r := ⟨_, rfl⟩
  obtain ⟨⟨x2, s2⟩, e2⟩ : ∃ r, nxt 0 getI s1 = r := ⟨_, rfl⟩
  obtain ⟨⟨ds, s3⟩, e3⟩ : ∃ r, nxt [] getDg s2 = r := ⟨_, rfl⟩
  obtain ⟨⟨es, s4⟩, e4⟩ : ∃ r, nxt [] getDg s3 = r := ⟨_, rfl⟩
  have e : sdP s = ((x1, (x2, ds, es, ()), ()), s4) := by unfold sdP pairP unitP; simp only [e1, e2, e3, e4]
  rw [e]
  have i1 := nxt_i64 s
  have i2 := nxt_i64 s1
  have l1 := nxt_shr 0 getI s
  have l2 := nxt_shr 0 getI s1
  have l3 := nxt_shr [] getDg s2
  have d1 := fun {S : Snap} {M : List Chunk} (w : World) (a : Option Addr) (n c : Nat) (hvb : RSl S (.slice a n c) s.1) hm (hst : St S (DecC bd (.slice a n c) s :: M) w) => nextI_c w bd a n c s hvb hm hst
  have d2 := fun {S : Snap} {M : List Chunk} (w : World) (a : Option Addr) (n c : Nat) (hvb : RSl S (.slice a n c) s1.1) hm (hst : St S (DecC bd (.slice a n c) s1 :: M) w) => nextI_c w bd a n c s1 hvb hm hst
  have d3 := fun {S : Snap} {M : List Chunk} (w : World) (a : Option Addr) (n c : Nat) (hvb : RSl S (.slice a n c) s2.1) hm (hst : St S (DecC bd (.slice a n c) s2 :: M) w) => digests_c w bd a n c s2 hvb hm hst
  have d4 := fun {S : Snap} {M : List Chunk} (w : World) (a : Option Addr) (n c : Nat) (hvb : RSl S (.slice a n c) s3.1) hm (hst : St S (DecC bd (.slice a n c) s3 :: M) w) => digests_c w bd a n c s3 hvb hm hst
  rw [e1] at d1 i1 l1
  rw [e2] at d2 i2 l2
  rw [e3] at d3 l3
  rw [e4] at d4
  simp only at d1 d2 d3 d4 i1 i2 l1 l2 l3
  clear e e1 e2 e3 e4
  go_enter Tryd.func85, Tryd.ntmps85
  repeat' ((fail_if_success (with_reducible show Code.wp _ (Code.region 1 _ _) _ _ _)); first | ((fail_if_success (go_big_may)); (go_step)) | (((((refine s_alloc hst inX ?_; clear hst; intro bk w hst)))) <;> (try refine nX ?_) <;> (try replace hst := nH hst)))
  have hst := hst.perm (List.Perm.swap _ _ _)
  repeat' ((fail_if_success (with_reducible show Code.wp _ (Code.region 2 _ _) _ _ _)); first | (((with_reducible refine Sl.k_call ?_; (first | (refine s_call (d1 _ _ _ _ hvb hm hst) inX rfl ?_; clear hst; rintro v w ⟨rfl, a1, n1, c1, hvb1, hst⟩) | (refine s_call (d2 _ _ _ _ hvb1 (by omega) hst) inX rfl ?_; clear hst; rintro v w ⟨rfl, a2, n2, c2, hvb2, hst⟩)))) <;> (try refine nX ?_) <;> (try replace hst := nH hst)) | ((fail_if_success (go_big_may)); (go_step)))
  repeat' ((fail_if_success (with_reducible show Code.wp _ (Code.region 3 _ _) _ _ _)); first | (((with_reducible refine Sl.k_call ?_; ((refine s_call (d3 _ _ _ _ hvb2 (by omega) hst) inX rfl ?_; clear hst; rintro v w ⟨S2, u0, un, uc, hS2, rfl, hu, a3, n3, c3, hvb3, hst⟩)))) <;> (try refine nX ?_) <;> (try replace hst := nH hst)) | ((fail_if_success (go_big_may)); (go_step)))
  repeat' (first | (((with_reducible refine Sl.k_call ?_; ((refine s_call (d4 _ _ _ _ hvb3 (by omega) hst) inX rfl ?_; clear hst; rintro v w ⟨S3, z0, zn, zc, hS3, rfl, hz, a4, n4, c4, hvb4, hst⟩)))) <;> (try refine nX ?_) <;> (try replace hst := nH hst)) | ((fail_if_success (go_big_may)); (go_step)) | (with_reducible refine Sl.gate rfl ?_; (go_step)) | (((((with_reducible refine Sl.k_store ?_; (refine s_store hst rfl _ BoxIn.h inX evX rfl lenOk oneOk (by simp) ?_); clear hst; intro w hst)))) <;> (try refine nX ?_) <;> (try replace hst := nH hst)))
  refine ret_cell rfl hst rfl 1 rfl inferInstance rfl rfl ?_
  exact ⟨_, rfl, S3, x1, x2, u0, un, uc, z0, zn, zc, hS2.trans hS3, rfl, r_sd i1 i2 (hu.mono hS3) hz, a4, n4, c4, hvb4, (hst.perm (List.Perm.swap _ _ _)).drop⟩

abbrev strT : TypeId := 9
abbrev sdT : TypeId := 72
theorem str_shr (s : PS) : (nxt ⟨[]⟩ getS s).2.1.length ≤ s.1.length ∧ (s.1.length ≤ 1048576 → (nxt ⟨[]⟩ getS s).1.b.length ≤ 1048576) := by
  refine ⟨nxt_shr _ _ s, fun h => ?_⟩
  unfold nxt
  split
  · simp
  · split
    · simp
    · exact Nat.le_trans (getB_len _) h
theorem sig_shr (s : PS) : (sdP s).2.1.length ≤ s.1.length ∧ (s.1.length ≤ 1048576 → True) := ⟨sd_shr s, fun _ => trivial⟩
theorem manyE_no {n : Int} {s : PS} (h : s.2 ≠ 0) : manyE n s = s := by unfold manyE; rw [if_pos h]
theorem manyE_neg {n : Int} {b : List UInt8} (h : n < 0) : manyE n (b, 0) = (b, 7) := by unfold manyE; rw [if_neg (by simp), if_pos h]
theorem manyE_big {n : Int} {b : List UInt8} (h : ¬ n < 0) (k : (b.length : Int) < n) : manyE n (b, 0) = (b, 6) := by unfold manyE; rw [if_neg (by simp), if_neg h, if_pos k]
theorem manyE_fit {n : Int} {b : List UInt8} (h : ¬ n < 0) (k : ¬ (b.length : Int) < n) : manyE n (b, 0) = (b, 0) := by unfold manyE; rw [if_neg (by simp), if_neg h, if_neg k]

set_option maxRecDepth 8000 in
set_option maxHeartbeats 2000000 in
theorem listS_c {S M} (w : World) (bd : Nat) (a : Option Addr) (n c : Nat) (s : PS) (hvb : RSl S (.slice a n c) s.1) (hm : s.1.length ≤ 1048576) (hst : St S (DecC bd (.slice a n c) s :: M) w) :
    Rets Tryd.prog 88 [dPtr bd, .func (.func 86) #[dPtr bd] #[]] w fun v w' => ∃ S' a0 n0 c0, S.Le S' ∧ v = .slice a0 n0 c0 ∧ RSl S' v (listP (nxt ⟨[]⟩ getS) s).1 ∧ DecAt S' M bd (listP (nxt ⟨[]⟩ getS) s).2 w' := by
  unfold Rets
  obtain ⟨⟨x1, s1⟩, e1⟩ : ∃ r, nxt 0 getI s = r := ⟨_, rfl⟩
  obtain ⟨sm, em⟩ : ∃ r, manyE x1 s1 = r := ⟨_, rfl⟩
  obtain ⟨R, eR⟩ : ∃ r, listF (nxt ⟨[]⟩ getS) x1.toNat sm [] = r := ⟨_, rfl⟩
  have e : listP (nxt ⟨[]⟩ getS) s = R := by unfold listP; simp only [e1, em, eR]
  rw [e]
  have i1 := nxt_i64 s
  have l1 := nxt_shr 0 getI s
  have l2 := manyE_shr x1 s1
  have d1 := fun {S : Snap} {M : List Chunk} (w : World) (a : Option Addr) (n c : Nat) (hvb : RSl S (.slice a n c) s.1) hm (hst : St S (DecC bd (.slice a n c) s :: M) w) => nextI_c w bd a n c s hvb hm hst
  have hsm : sm.2 = 0 → 0 ≤ x1 ∧ x1 ≤ 1048576 := fun h => by
    rw [← em] at h
    have := manyE_ok h
    rw [e1] at l1
    simp only at l1
    omega
  rw [e1] at d1 i1 l1
  rw [em] at l2
  simp only at d1 i1 l1
  have hms : sm.1.length ≤ 1048576 := by omega
  clear e e1
  go_enter Tryd.func88, Tryd.ntmps88
  repeat' ((fail_if_success (with_reducible show Code.wp _ (Code.block 0 _) _ _ _)); first | (((with_reducible refine Sl.k_call ?_; ((refine s_call (d1 _ _ _ _ hvb hm hst) inX rfl ?_; clear hst; rintro v w ⟨rfl, a1, n1, c1, hvb1, hst⟩)))) <;> (try refine nX ?_) <;> (try replace hst := nH hst)) | ((fail_if_success (go_big_may)); (go_step)))
  go_cut [4, 5] from 7 (fun p4 p5 wr => p4 = .slice none 0 0 ∧ p5 = .int .i64 x1 ∧ DecAt S M bd sm wr)
  case first =>
    obtain ⟨b1, q1⟩ := s1
    simp only at hvb1 l1
    simp only [DecC] at hst
    by_cases he : q1 = 0
    · subst he
      by_cases h2 : x1 < 0
      · rw [manyE_neg h2] at em
        subst em
        repeat' (first | ((fail_if_success (go_big_may)); (go_step)) | ((first | (with_reducible refine Sl.k_load ?_; (refine s_qt hst (by exact qt_load rfl _ BoxIn.h inX rfl rfl) ?_)) | (with_reducible refine Sl.k_field ?_; (refine s_qt hst (qt_field rfl inX) ?_))) <;> (try refine nX ?_)) | (with_reducible refine Sl.gate rfl ?_; (go_step)) | (((((with_reducible refine Sl.k_store ?_; (refine s_store hst rfl _ BoxIn.h inX evX rfl lenOk oneOk (by simp) ?_); clear hst; intro w hst)))) <;> (try refine nX ?_) <;> (try replace hst := nH hst)))
        go_meet; case rel => exact ⟨rfl, rfl, a1, n1, c1, hvb1, hst⟩
      · by_cases h3 : (b1.length : Int) < x1
        · rw [manyE_big h2 h3] at em
          subst em
          repeat' (first | ((fail_if_success (go_big_may)); (go_step)) | ((first | (with_reducible refine Sl.k_load ?_; (refine s_qt hst (by exact qt_load rfl _ BoxIn.h inX rfl rfl) ?_)) | (with_reducible refine Sl.k_field ?_; (refine s_qt hst (qt_field rfl inX) ?_)) | (with_reducible refine Sl.k_call ?_; (refine s_qt hst (by exact qt_len evX asX inX) ?_))) <;> (try refine nX ?_)) | (with_reducible refine Sl.gate rfl ?_; (go_step)) | (((((with_reducible refine Sl.k_store ?_; (refine s_store hst rfl _ BoxIn.h inX evX rfl lenOk oneOk (by simp) ?_); clear hst; intro w hst)))) <;> (try refine nX ?_) <;> (try replace hst := nH hst)))
          go_meet; case rel => exact ⟨rfl, rfl, a1, n1, c1, hvb1, hst⟩
        · rw [manyE_fit h2 h3] at em
          subst em
          repeat' (first | ((fail_if_success (go_big_may)); (go_step)) | ((first | (with_reducible refine Sl.k_load ?_; (refine s_qt hst (by exact qt_load rfl _ BoxIn.h inX rfl rfl) ?_)) | (with_reducible refine Sl.k_field ?_; (refine s_qt hst (qt_field rfl inX) ?_)) | (with_reducible refine Sl.k_call ?_; (refine s_qt hst (by exact qt_len evX asX inX) ?_))) <;> (try refine nX ?_)) | (with_reducible refine Sl.gate rfl ?_; (go_step)))
          go_meet; case rel => exact ⟨rfl, rfl, a1, n1, c1, hvb1, hst⟩
    · have h3 : (q1 : Int) ≠ 0 := by omega
      rw [manyE_no he] at em
      subst em
      repeat' (first | ((fail_if_success (go_big_may)); (go_step)) | ((first | (with_reducible refine Sl.k_load ?_; (refine s_qt hst (by exact qt_load rfl _ BoxIn.h inX rfl rfl) ?_)) | (with_reducible refine Sl.k_field ?_; (refine s_qt hst (qt_field rfl inX) ?_))) <;> (try refine nX ?_)) | (with_reducible refine Sl.gate rfl ?_; (go_step)))
      go_meet; case rel => exact ⟨rfl, rfl, a1, n1, c1, hvb1, hst⟩
  case rest =>
    clear hst hvb1 l1 l2 d1 em s1
    obtain ⟨rfl, rfl, a1, n1, c1, hvb1, hst⟩ := hcut
    have eR' := Lib.hid eR
    clear eR
    repeat' (((fail_if_success (go_big_may)); (go_step)))
    have hst := hst.nil strT 1
    go_loopw [6, 7] (fun u b wr => ∃ (S' : Snap) (k : Nat) (out : List Str) (cells : List Value) (s' : PS) (a2 : Option Addr) (n2 c2 : Nat), S.Le S' ∧ b = .int .i64 (k : Nat) ∧ out.length = k ∧ (s'.2 = 0 → 0 ≤ x1 ∧ x1 ≤ 1048576) ∧ (k : Int) ≤ max x1 0 ∧ listF (nxt ⟨[]⟩ getS) (x1.toNat - k) s' out = R ∧ RL S' cells out ∧ s'.1.length ≤ 1048576 ∧ RSl S' (.slice a2 n2 c2) s'.1 ∧ St S' (.sl u strT 1 k cells :: DecC bd (.slice a2 n2 c2) s' :: M) wr) (fun _ b _ => x1.toNat - (intOf b).toNat)
    case atStart => exact ⟨S, 0, [], [], sm, a1, n1, c1, Snap.Le.refl _, rfl, rfl, hsm, by omega, eR'.out, RL.nil, hms, hvb1, hst⟩
    case round =>
      clear hst hvb1 hms hsm eR'
      obtain ⟨S', k, out, cells, ⟨b', q'⟩, a2, n2, c2, hS, rfl, hol, hx, hk, hR, hRL, hms, hvb2, hst⟩ := hrel
      simp only at hx hms hvb2
      have hol9 := Lib.hid hol
      clear hol
      simp only [DecC] at hst
      by_cases hlt : (k : Int) < x1
      · by_cases hq : q' = 0
        · subst hq
          obtain ⟨hx0, hx1⟩ := hx rfl
          have ek : x1.toNat - k = (x1.toNat - (k + 1)) + 1 := by omega
          rw [ek, listF_go rfl] at hR
          have lg := str_shr (b', 0)
          have dg := fun {M : List Chunk} (w : World) (hst : St S' (DecC bd (.slice a2 n2 c2) (b', 0) :: M) w) => stage_c w bd a2 n2 c2 (b', 0) hvb2 hms hst
          obtain ⟨⟨y, s3⟩, e3⟩ : ∃ r, (nxt ⟨[]⟩ getS) (b', 0) = r := ⟨_, rfl⟩
          rw [e3] at hR dg lg
          simp only at hR dg lg
          obtain ⟨lg, lg2⟩ := lg
          have lg2 := lg2 hms
          have hR9 := Lib.hid hR
          clear hR e3
          repeat' ((fail_if_success (with_reducible show Code.wp _ (Code.region 11 _ _) _ _ _)); first | (((with_reducible refine Sl.k_guard ?_; ((refine Sl.guard_yes rfl ?_)))) <;> (try refine nX ?_)) | ((fail_if_success (go_big_may)); (go_step)) | ((first | (with_reducible refine Sl.k_load ?_; (refine s_qt hst (by exact qt_load rfl _ BoxIn.h inX rfl rfl) ?_)) | (with_reducible refine Sl.k_field ?_; (refine s_qt hst (qt_field rfl inX) ?_))) <;> (try refine nX ?_)) | (with_reducible refine Sl.gate rfl ?_; (go_step)))
          have hst := hst.perm (List.Perm.swap _ _ _)
          repeat' (((fail_if_success (go_big_may)); (go_step)))
          refine s_callv (dg _ hst) rfl inX rfl rfl ?_
          clear hst
          rintro v w ⟨rfl, a3, n3, c3, hvb3, hst⟩
          have hS3 := Snap.Le.refl S'
          have hy : Rep.R S' [StrV y.b] y := ⟨rfl, by simp only [maxLen]; omega⟩
          (try refine nX ?_)
          repeat' (fail)
          refine s_lit (vs := [StrV y.b]) (cs := [StrV y.b]) hst inX inX rfl rfl (by simp [Value.cells]) rfl (by omega) (by omega) ?_
          clear hst; intro u3 w hst
          (try refine nX ?_)
          repeat' (fail)
          refine s_append (k := 2) (j := 0) hst evX evX rfl rfl inX inX inX (by simp [Value.oneCell']) (by omega) (by omega) (by decide) ?_
          clear hst; intro u4 w hst
          (try refine nX ?_)
          simp only [List.set_cons_zero, List.set_cons_succ] at hst
          have hst := hst.drop.perm (List.Perm.swap _ _ _)
          repeat' (first | ((fail_if_success (go_big_may)); (go_step)) | (with_reducible refine Sl.gate rfl ?_; (go_step)))
          go_roundw
          case rel => exact ⟨_, k + 1, out ++ [y], _, s3, a3, n3, c3, hS.trans hS3, by go_num, by rw [List.length_append, hol9.out]; rfl, fun _ => ⟨hx0, hx1⟩, by omega, hR9.out, RL.append (hRL.mono hS3) (RL.one_mk hy), by omega, hvb3, hst⟩
          case measure => simp [intOf]; omega
        · have h3 : (q' : Int) ≠ 0 := by omega
          rw [listF_err (by exact hq)] at hR
          subst hR
          repeat' (first | (((with_reducible refine Sl.k_guard ?_; ((refine Sl.guard_yes rfl ?_)))) <;> (try refine nX ?_)) | ((fail_if_success (go_big_may)); (go_step)) | ((first | (with_reducible refine Sl.k_load ?_; (refine s_qt hst (by exact qt_load rfl _ BoxIn.h inX rfl rfl) ?_)) | (with_reducible refine Sl.k_field ?_; (refine s_qt hst (qt_field rfl inX) ?_))) <;> (try refine nX ?_)) | (with_reducible refine Sl.gate rfl ?_; (go_step)))
          obtain ⟨u0, un, uc, rfl⟩ := sl_form hst
          go_ret
          obtain ⟨S2, hS2, hst, hv⟩ := St.freeze (α := Str) hst hRL hol9.out.symm
          exact ⟨_, rfl, S2, _, _, _, hS.trans hS2, rfl, hv, a2, n2, c2, hvb2.mono hS2, hst⟩
      · have ek : x1.toNat - k = 0 := by omega
        rw [ek, listF] at hR
        subst hR
        repeat' (first | (((with_reducible refine Sl.k_guard ?_; ((refine Sl.guard_no rfl ?_)))) <;> (try refine nX ?_)) | ((fail_if_success (go_big_may)); (go_step)) | (with_reducible refine Sl.gate rfl ?_; (go_step)))
        obtain ⟨u0, un, uc, rfl⟩ := sl_form hst
        go_ret
        obtain ⟨S2, hS2, hst, hv⟩ := St.freeze (α := Str) hst hRL hol9.out.symm
        exact ⟨_, rfl, S2, _, _, _, hS.trans hS2, rfl, hv, a2, n2, c2, hvb2.mono hS2, hst⟩

set_option maxRecDepth 8000 in
set_option maxHeartbeats 2000000 in
theorem listG_c {S M} (w : World) (bd : Nat) (a : Option Addr) (n c : Nat) (s : PS) (hvb : RSl S (.slice a n c) s.1) (hm : s.1.length ≤ 1048576) (hst : St S (DecC bd (.slice a n c) s :: M) w) :
    Rets Tryd.prog 87 [dPtr bd, .func (.func 85) #[dPtr bd] #[]] w fun v w' => ∃ S' a0 n0 c0, S.Le S' ∧ v = .slice a0 n0 c0 ∧ RSl S' v (listP sdP s).1 ∧ DecAt S' M bd (listP sdP s).2 w' := by
  unfold Rets
  obtain ⟨⟨x1, s1⟩, e1⟩ : ∃ r, nxt 0 getI s = r := ⟨_, rfl⟩
  obtain ⟨sm, em⟩ : ∃ r, manyE x1 s1 = r := ⟨_, rfl⟩
  obtain ⟨R, eR⟩ : ∃ r, listF sdP x1.toNat sm [] = r := ⟨_, rfl⟩
  have e : listP sdP s = R := by unfold listP; simp only [e1, em, eR]
  rw [e]
  have i1 := nxt_i64 s
  have l1 := nxt_shr 0 getI s
  have l2 := manyE_shr x1 s1
  have d1 := fun {S : Snap} {M : List Chunk} (w : World) (a : Option Addr) (n c : Nat) (hvb : RSl S (.slice a n c) s.1) hm (hst : St S (DecC bd (.slice a n c) s :: M) w) => nextI_c w bd a n c s hvb hm hst
  have hsm : sm.2 = 0 → 0 ≤ x1 ∧ x1 ≤ 1048576 := fun h => by
    rw [← em] at h
    have := manyE_ok h
    rw [e1] at l1
    simp only at l1
    omega
  rw [e1] at d1 i1 l1
  rw [em] at l2
  simp only at d1 i1 l1
  have hms : sm.1.length ≤ 1048576 := by omega
  clear e e1
  go_enter Tryd.func87, Tryd.ntmps87
  repeat' ((fail_if_success (with_reducible show Code.wp _ (Code.block 0 _) _ _ _)); first | (((with_reducible refine Sl.k_call ?_; ((refine s_call (d1 _ _ _ _ hvb hm hst) inX rfl ?_; clear hst; rintro v w ⟨rfl, a1, n1, c1, hvb1, hst⟩)))) <;> (try refine nX ?_) <;> (try replace hst := nH hst)) | ((fail_if_success (go_big_may)); (go_step)))
  go_cut [4, 5] from 7 (fun p4 p5 wr => p4 = .slice none 0 0 ∧ p5 = .int .i64 x1 ∧ DecAt S M bd sm wr)
  case first =>
    obtain ⟨b1, q1⟩ := s1
    simp only at hvb1 l1
    simp only [DecC] at hst
    by_cases he : q1 = 0
    · subst he
      by_cases h2 : x1 < 0
      · rw [manyE_neg h2] at em
        subst em
        repeat' (first | ((fail_if_success (go_big_may)); (go_step)) | ((first | (with_reducible refine Sl.k_load ?_; (refine s_qt hst (by exact qt_load rfl _ BoxIn.h inX rfl rfl) ?_)) | (with_reducible refine Sl.k_field ?_; (refine s_qt hst (qt_field rfl inX) ?_))) <;> (try refine nX ?_)) | (with_reducible refine Sl.gate rfl ?_; (go_step)) | (((((with_reducible refine Sl.k_store ?_; (refine s_store hst rfl _ BoxIn.h inX evX rfl lenOk oneOk (by simp) ?_); clear hst; intro w hst)))) <;> (try refine nX ?_) <;> (try replace hst := nH hst)))
        go_meet; case rel => exact ⟨rfl, rfl, a1, n1, c1, hvb1, hst⟩
      · by_cases h3 : (b1.length : Int) < x1
        · rw [manyE_big h2 h3] at em
          subst em
          repeat' (first | ((fail_if_success (go_big_may)); (go_step)) | ((first | (with_reducible refine Sl.k_load ?_; (refine s_qt hst (by exact qt_load rfl _ BoxIn.h inX rfl rfl) ?_)) | (with_reducible refine Sl.k_field ?_; (refine s_qt hst (qt_field rfl inX) ?_)) | (with_reducible refine Sl.k_call ?_; (refine s_qt hst (by exact qt_len evX asX inX) ?_))) <;> (try refine nX ?_)) | (with_reducible refine Sl.gate rfl ?_; (go_step)) | (((((with_reducible refine Sl.k_store ?_; (refine s_store hst rfl _ BoxIn.h inX evX rfl lenOk oneOk (by simp) ?_); clear hst; intro w hst)))) <;> (try refine nX ?_) <;> (try replace hst := nH hst)))
          go_meet; case rel => exact ⟨rfl, rfl, a1, n1, c1, hvb1, hst⟩
        · rw [manyE_fit h2 h3] at em
          subst em
          repeat' (first | ((fail_if_success (go_big_may)); (go_step)) | ((first | (with_reducible refine Sl.k_load ?_; (refine s_qt hst (by exact qt_load rfl _ BoxIn.h inX rfl rfl) ?_)) | (with_reducible refine Sl.k_field ?_; (refine s_qt hst (qt_field rfl inX) ?_)) | (with_reducible refine Sl.k_call ?_; (refine s_qt hst (by exact qt_len evX asX inX) ?_))) <;> (try refine nX ?_)) | (with_reducible refine Sl.gate rfl ?_; (go_step)))
          go_meet; case rel => exact ⟨rfl, rfl, a1, n1, c1, hvb1, hst⟩
    · have h3 : (q1 : Int) ≠ 0 := by omega
      rw [manyE_no he] at em
      subst em
      repeat' (first | ((fail_if_success (go_big_may)); (go_step)) | ((first | (with_reducible refine Sl.k_load ?_; (refine s_qt hst (by exact qt_load rfl _ BoxIn.h inX rfl rfl) ?_)) | (with_reducible refine Sl.k_field ?_; (refine s_qt hst (qt_field rfl inX) ?_))) <;> (try refine nX ?_)) | (with_reducible refine Sl.gate rfl ?_; (go_step)))
      go_meet; case rel => exact ⟨rfl, rfl, a1, n1, c1, hvb1, hst⟩
  case rest =>
    clear hst hvb1 l1 l2 d1 em s1
    obtain ⟨rfl, rfl, a1, n1, c1, hvb1, hst⟩ := hcut
    have eR' := Lib.hid eR
    clear eR
    repeat' (((fail_if_success (go_big_may)); (go_step)))
    have hst := hst.nil sdT 4
    go_loopw [6, 7] (fun u b wr => ∃ (S' : Snap) (k : Nat) (out : List SD) (cells : List Value) (s' : PS) (a2 : Option Addr) (n2 c2 : Nat), S.Le S' ∧ b = .int .i64 (k : Nat) ∧ out.length = k ∧ (s'.2 = 0 → 0 ≤ x1 ∧ x1 ≤ 1048576) ∧ (k : Int) ≤ max x1 0 ∧ listF sdP (x1.toNat - k) s' out = R ∧ RL S' cells out ∧ s'.1.length ≤ 1048576 ∧ RSl S' (.slice a2 n2 c2) s'.1 ∧ St S' (.sl u sdT 4 k cells :: DecC bd (.slice a2 n2 c2) s' :: M) wr) (fun _ b _ => x1.toNat - (intOf b).toNat)
    case atStart => exact ⟨S, 0, [], [], sm, a1, n1, c1, Snap.Le.refl _, rfl, rfl, hsm, by omega, eR'.out, RL.nil, hms, hvb1, hst⟩
    case round =>
      clear hst hvb1 hms hsm eR'
      obtain ⟨S', k, out, cells, ⟨b', q'⟩, a2, n2, c2, hS, rfl, hol, hx, hk, hR, hRL, hms, hvb2, hst⟩ := hrel
      simp only at hx hms hvb2
      have hol9 := Lib.hid hol
      clear hol
      simp only [DecC] at hst
      by_cases hlt : (k : Int) < x1
      · by_cases hq : q' = 0
        · subst hq
          obtain ⟨hx0, hx1⟩ := hx rfl
          have ek : x1.toNat - k = (x1.toNat - (k + 1)) + 1 := by omega
          rw [ek, listF_go rfl] at hR
          have lg := sig_shr (b', 0)
          have dg := fun {M : List Chunk} (w : World) (hst : St S' (DecC bd (.slice a2 n2 c2) (b', 0) :: M) w) => dsig_c w bd a2 n2 c2 (b', 0) hvb2 hms hst
          obtain ⟨⟨y, s3⟩, e3⟩ : ∃ r, sdP (b', 0) = r := ⟨_, rfl⟩
          rw [e3] at hR dg lg
          simp only at hR dg lg
          obtain ⟨lg, lg2⟩ := lg
          have lg2 := lg2 hms
          have hR9 := Lib.hid hR
          clear hR e3
          repeat' ((fail_if_success (with_reducible show Code.wp _ (Code.region 11 _ _) _ _ _)); first | (((with_reducible refine Sl.k_guard ?_; ((refine Sl.guard_yes rfl ?_)))) <;> (try refine nX ?_)) | ((fail_if_success (go_big_may)); (go_step)) | ((first | (with_reducible refine Sl.k_load ?_; (refine s_qt hst (by exact qt_load rfl _ BoxIn.h inX rfl rfl) ?_)) | (with_reducible refine Sl.k_field ?_; (refine s_qt hst (qt_field rfl inX) ?_))) <;> (try refine nX ?_)) | (with_reducible refine Sl.gate rfl ?_; (go_step)))
          have hst := hst.perm (List.Perm.swap _ _ _)
          repeat' (((fail_if_success (go_big_may)); (go_step)))
          refine s_callv (dg _ hst) rfl inX rfl rfl ?_
          clear hst
          rintro v w ⟨S3, y1, y2, z1, z2, z3, z4, z5, z6, hS3, rfl, hy, a3, n3, c3, hvb3, hst⟩
          (try refine nX ?_)
          repeat' (fail)
          refine s_lit (vs := [.agg #[.int .i64 y1, .int .i64 y2, .slice z1 z2 z3, .slice z4 z5 z6]]) (cs := [.int .i64 y1, .int .i64 y2, .slice z1 z2 z3, .slice z4 z5 z6]) hst inX inX rfl rfl (by simp [Value.cells]) rfl (by omega) (by omega) ?_
          clear hst; intro u3 w hst
          (try refine nX ?_)
          repeat' (fail)
          refine s_append (k := 2) (j := 0) hst evX evX rfl rfl inX inX inX (by simp [Value.oneCell']) (by omega) (by omega) (by decide) ?_
          clear hst; intro u4 w hst
          (try refine nX ?_)
          simp only [List.set_cons_zero, List.set_cons_succ] at hst
          have hst := hst.drop.perm (List.Perm.swap _ _ _)
          repeat' (first | ((fail_if_success (go_big_may)); (go_step)) | (with_reducible refine Sl.gate rfl ?_; (go_step)))
          go_roundw
          case rel => exact ⟨_, k + 1, out ++ [y], _, s3, a3, n3, c3, hS.trans hS3, by go_num, by rw [List.length_append, hol9.out]; rfl, fun _ => ⟨hx0, hx1⟩, by omega, hR9.out, RL.append (hRL.mono hS3) (RL.one_mk hy), by omega, hvb3, hst⟩
          case measure => simp [intOf]; omega
        · have h3 : (q' : Int) ≠ 0 := by omega
          rw [listF_err (by exact hq)] at hR
          subst hR
          repeat' (first | (((with_reducible refine Sl.k_guard ?_; ((refine Sl.guard_yes rfl ?_)))) <;> (try refine nX ?_)) | ((fail_if_success (go_big_may)); (go_step)) | ((first | (with_reducible refine Sl.k_load ?_; (refine s_qt hst (by exact qt_load rfl _ BoxIn.h inX rfl rfl) ?_)) | (with_reducible refine Sl.k_field ?_; (refine s_qt hst (qt_field rfl inX) ?_))) <;> (try refine nX ?_)) | (with_reducible refine Sl.gate rfl ?_; (go_step)))
          obtain ⟨u0, un, uc, rfl⟩ := sl_form hst
          go_ret
          obtain ⟨S2, hS2, hst, hv⟩ := St.freeze (α := SD) hst hRL hol9.out.symm
          exact ⟨_, rfl, S2, _, _, _, hS.trans hS2, rfl, hv, a2, n2, c2, hvb2.mono hS2, hst⟩
      · have ek : x1.toNat - k = 0 := by omega
        rw [ek, listF] at hR
        subst hR
        repeat' (first | (((with_reducible refine Sl.k_guard ?_; ((refine Sl.guard_no rfl ?_)))) <;> (try refine nX ?_)) | ((fail_if_success (go_big_may)); (go_step)) | (with_reducible refine Sl.gate rfl ?_; (go_step)))
        obtain ⟨u0, un, uc, rfl⟩ := sl_form hst
        go_ret
        obtain ⟨S2, hS2, hst, hv⟩ := St.freeze (α := SD) hst hRL hol9.out.symm
        exact ⟨_, rfl, S2, _, _, _, hS.trans hS2, rfl, hv, a2, n2, c2, hvb2.mono hS2, hst⟩

end Go.Proofs.YtlimhgamebnfeaaDoor

/- Package manifest: the decoder: bundles and rotations. -/
--@hgp
--@flat
--@dg
--@ex0
namespace Go.Proofs.YtlimhgamebnfeaaDoor
set_option linter.unusedSimpArgs false
set_option linter.unusedVariables false
open Go.RowKit Go.Sl

theorem qt_mkf {P : Program} {S : Snap} {M : List Chunk} {l : List Value} {f : FuncId} {x : Operand} {v : Value} (hx : evF l x = v) : Qt P l (.makeFunc (.func f) #[x] #[]) S M (.func (.func f) #[v] #[]) := fun dst ty pos af w _ => by simp [execOp, hx, Instr.makeFunc]
theorem st_keep {S : Snap} {M : List Chunk} {w : World} {a b c : Chunk} (h : St S (a :: b :: c :: M) w) : St S (a :: M) w := (h.perm ((List.Perm.swap b a (c :: M)).trans ((List.Perm.swap c a M).cons b))).drop.drop
theorem r_bu {S : Snap} {cm : List Value} {m : MF} {v u : Value} {l : List SD} {t : List Str} (hm : Rep.R S cm m) (hv : RSl S v l) (hu : RSl S u t) : Rep.R S (cm ++ [v, u]) ((m, l, t, ()) : BU) :=
  prod_mk hm (prod_mk (cs := [_]) (r_list hv) (prod_mk (cs := [_]) (r_list hu) unit_mk))
theorem r_ro {S : Snap} {cm : List Value} {m : MF} {v : Value} {l : List SD} (hm : Rep.R S cm m) (hv : RSl S v l) : Rep.R S (cm ++ [v]) ((m, l, ()) : RO) :=
  prod_mk hm (prod_mk (cs := [_]) (r_list hv) unit_mk)
abbrev BuPost (S : Snap) (M : List Chunk) (bd : Nat) (r : BU × PS) (v : Value) (w : World) : Prop :=
  ∃ S' x1 x2 x3 a0 n0 c0 a1 n1 c1 a2 n2 c2, S.Le S' ∧ v = .agg #[.int .i64 x1, .int .i64 x2, .int .i64 x3, .slice a0 n0 c0, .slice a1 n1 c1, .slice a2 n2 c2] ∧ Rep.R S' [.int .i64 x1, .int .i64 x2, .int .i64 x3, .slice a0 n0 c0, .slice a1 n1 c1, .slice a2 n2 c2] r.1 ∧ DecAt S' M bd r.2 w
abbrev RoPost (S : Snap) (M : List Chunk) (bd : Nat) (r : RO × PS) (v : Value) (w : World) : Prop :=
  ∃ S' x1 x2 x3 a0 n0 c0 a1 n1 c1, S.Le S' ∧ v = .agg #[.int .i64 x1, .int .i64 x2, .int .i64 x3, .slice a0 n0 c0, .slice a1 n1 c1] ∧ Rep.R S' [.int .i64 x1, .int .i64 x2, .int .i64 x3, .slice a0 n0 c0, .slice a1 n1 c1] r.1 ∧ DecAt S' M bd r.2 w
set_option maxRecDepth 8000 in
set_option maxHeartbeats 2000000 in
theorem dbu_c {S M} (w : World) (bd : Nat) (a : Option Addr) (n c : Nat) (s : PS) (hvb : RSl S (.slice a n c) s.1) (hm : s.1.length ≤ 1048576) (hst : St S (DecC bd (.slice a n c) s :: M) w) :
    Rets Tryd.prog 63 [dPtr bd] w fun v w' => BuPost S M bd (buP s) v w' := by
  unfold Rets
  obtain ⟨⟨m, s1⟩, e1⟩ : ∃ r, mfP s = r := ⟨_, rfl⟩
  obtain ⟨⟨l, s2⟩, e2⟩ : ∃ r, listP sdP s1 = r := ⟨_, rfl⟩
  obtain ⟨⟨t, s3⟩, e3⟩ : ∃ r, listP (nxt ⟨[]⟩ getS) s2 = r := ⟨_, rfl⟩
  have e : buP s = ((m, l, t, ()), s3) := by unfold buP pairP unitP; simp only [e1, e2, e3]
  rw [e]
  have l1 := mf_shr s
  have l2 := listP_shr sd_shr s1
  have d1 := fun {S : Snap} {M : List Chunk} (w : World) (a : Option Addr) (n c : Nat) (hvb : RSl S (.slice a n c) s.1) hm (hst : St S (DecC bd (.slice a n c) s :: M) w) => dmf_c w bd a n c s hvb hm hst
  have d2 := fun {S : Snap} {M : List Chunk} (w : World) (a : Option Addr) (n c : Nat) (hvb : RSl S (.slice a n c) s1.1) hm (hst : St S (DecC bd (.slice a n c) s1 :: M) w) => listG_c w bd a n c s1 hvb hm hst
  have d3 := fun {S : Snap} {M : List Chunk} (w : World) (a : Option Addr) (n c : Nat) (hvb : RSl S (.slice a n c) s2.1) hm (hst : St S (DecC bd (.slice a n c) s2 :: M) w) => listS_c w bd a n c s2 hvb hm hst
  rw [e1] at d1 l1
  rw [e2] at d2 l2
  rw [e3] at d3
  simp only at d1 d2 d3 l1 l2
  clear e e1 e2 e3
  go_enter Tryd.func63, Tryd.ntmps63
  repeat' ((fail_if_success (with_reducible show Code.wp _ (Code.region 1 _ _) _ _ _)); first | ((fail_if_success (go_big_may)); (go_step)) | (((((refine s_alloc hst inX ?_; clear hst; intro bk w hst)))) <;> (try refine nX ?_) <;> (try replace hst := nH hst)))
  have hst := hst.perm (List.Perm.swap _ _ _)
  repeat' ((fail_if_success (with_reducible show Code.wp _ (Code.region 3 _ _) _ _ _)); first | (((with_reducible refine Sl.k_call ?_; ((refine s_call (d1 _ _ _ _ hvb hm hst) inX rfl ?_; clear hst; rintro v w ⟨S2, x1, x2, x3, u0, un, uc, hS2, rfl, hm1, a1, n1, c1, hvb1, hst⟩)))) <;> (try refine nX ?_) <;> (try replace hst := nH hst)) | ((fail_if_success (go_big_may)); (go_step)) | (with_reducible refine Sl.gate rfl ?_; (go_step)) | ((((first | (with_reducible refine Sl.k_store ?_; (refine s_store hst rfl _ BoxIn.h inX evX rfl lenOk oneOk (by simp) ?_); clear hst; intro w hst) | (refine s_alloc hst inX ?_; clear hst; intro bk w hst)))) <;> (try refine nX ?_) <;> (try replace hst := nH hst)))
  have hst := hst.perm (List.Perm.swap _ _ _)
  repeat' ((fail_if_success (with_reducible show Code.wp _ (Code.region 4 _ _) _ _ _)); first | (((with_reducible refine Sl.k_call ?_; ((refine s_call (d2 _ _ _ _ hvb1 (by omega) hst) inX rfl ?_; clear hst; rintro v w ⟨S3, v0, vn, vc, hS3, rfl, hl, a2, n2, c2, hvb2, hst⟩)))) <;> (try refine nX ?_) <;> (try replace hst := nH hst)) | ((fail_if_success (go_big_may)); (go_step)))
  refine p_begin hst (by kernel_rfl) ?_; clear hst; intro w hst; (try refine nX ?_)
  refine p_take 1 (by repeat (first | exact panicQ_body | refine panicQ_then ?_ | refine panicQ_block ?_)) rfl (by kernel_rfl) (by kernel_rfl) (by kernel_rfl) rfl (fun _ _ => qt_move evX) ?_; (try refine nX ?_)
  refine p_take 2 (by repeat (first | exact panicQ_body | refine panicQ_then ?_ | refine panicQ_block ?_)) rfl (by kernel_rfl) (by kernel_rfl) (by kernel_rfl) rfl (fun _ _ => qt_move evX) ?_; (try refine nX ?_)
  refine p_take 3 (by repeat (first | exact panicQ_body | refine panicQ_then ?_ | refine panicQ_block ?_)) rfl (by kernel_rfl) (by kernel_rfl) (by kernel_rfl) rfl (fun _ _ => qt_move evX) ?_; (try refine nX ?_)
  refine p_two 0 4 rfl rfl (by kernel_rfl) ?_ ?_
  intro K hK; refine s_qt hst (qt_load rfl _ BoxIn.h inX rfl rfl) ?_; (try refine nX ?_); (try replace hst := nH hst); refine p_next hK ?_; clear hK K; (try refine nX ?_)
  refine p_one 4 rfl (by kernel_rfl) ?_; intro K hK; refine s_call (d3 _ _ _ _ hvb2 (by omega) hst) inX rfl ?_; clear hst; rintro v w ⟨S4, z0, zn, zc, hS4, rfl, ht, a3, n3, c3, hvb3, hst⟩; (try refine nX ?_); (try replace hst := nH hst); refine p_next hK ?_; clear hK K; (try refine nX ?_)
  refine p_one 5 rfl (by kernel_rfl) ?_; intro K hK; refine s_qt hst (qt_buildS (cs := [.int .i64 x1, .int .i64 x2, .int .i64 x3, .slice u0 un uc, .slice v0 vn vc, .slice z0 zn zc]) inX inX (by kernel_rfl)) ?_; (try refine nX ?_); (try replace hst := nH hst); refine p_next hK ?_; clear hK K; (try refine nX ?_)
  refine p_one 6 rfl (by kernel_rfl) ?_; intro K hK; (first | refine s_stR hst rfl BoxIn.h evX asX inX rfl rfl ?_ | refine s_store hst rfl _ BoxIn.h inX evX rfl lenOk oneOk (by simp <;> omega) ?_); clear hst; intro w hst; (try refine nX ?_); (try replace hst := nH hst); refine p_next hK ?_; clear hK K; (try refine nX ?_)
  refine p_done (by kernel_rfl) ?_; rotate_left
  intro K hK; refine s_call (d3 _ _ _ _ hvb2 (by omega) hst) inX rfl ?_; clear hst; rintro v w ⟨S4, z0, zn, zc, hS4, rfl, ht, a3, n3, c3, hvb3, hst⟩; (try refine nX ?_); (try replace hst := nH hst); refine p_next hK ?_; clear hK K; (try refine nX ?_)
  refine p_one 0 rfl (by kernel_rfl) ?_; intro K hK; refine s_qt hst (qt_load rfl _ BoxIn.h inX rfl rfl) ?_; (try refine nX ?_); (try replace hst := nH hst); refine p_next hK ?_; clear hK K; (try refine nX ?_)
  refine p_one 5 rfl (by kernel_rfl) ?_; intro K hK; refine s_qt hst (qt_buildS (cs := [.int .i64 x1, .int .i64 x2, .int .i64 x3, .slice u0 un uc, .slice v0 vn vc, .slice z0 zn zc]) inX inX (by kernel_rfl)) ?_; (try refine nX ?_); (try replace hst := nH hst); refine p_next hK ?_; clear hK K; (try refine nX ?_)
  refine p_one 6 rfl (by kernel_rfl) ?_; intro K hK; (first | refine s_stR hst rfl BoxIn.h evX asX inX rfl rfl ?_ | refine s_store hst rfl _ BoxIn.h inX evX rfl lenOk oneOk (by simp <;> omega) ?_); clear hst; intro w hst; (try refine nX ?_); (try replace hst := nH hst); refine p_next hK ?_; clear hK K; (try refine nX ?_)
  refine p_done (by kernel_rfl) ?_; rotate_left
  all_goals
    repeat' (((fail_if_success (go_big_may)); (go_step)))
    refine ret_cell rfl hst rfl 2 rfl inferInstance rfl rfl ?_
    exact ⟨_, rfl, S4, x1, x2, x3, u0, un, uc, v0, vn, vc, z0, zn, zc, (hS2.trans hS3).trans hS4, rfl, r_bu (Rep.mono hS4 (Rep.mono hS3 hm1)) (hl.mono hS4) ht, a3, n3, c3, hvb3, st_keep hst⟩
set_option maxRecDepth 8000 in
set_option maxHeartbeats 2000000 in
theorem dro_c {S M} (w : World) (bd : Nat) (a : Option Addr) (n c : Nat) (s : PS) (hvb : RSl S (.slice a n c) s.1) (hm : s.1.length ≤ 1048576) (hst : St S (DecC bd (.slice a n c) s :: M) w) :
    Rets Tryd.prog 68 [dPtr bd] w fun v w' => RoPost S M bd (roP s) v w' := by
  unfold Rets
  obtain ⟨⟨m, s1⟩, e1⟩ : ∃ r, mfP s = r := ⟨_, rfl⟩
  obtain ⟨⟨l, s2⟩, e2⟩ : ∃ r, listP sdP s1 = r := ⟨_, rfl⟩
  have e : roP s = ((m, l, ()), s2) := by unfold roP pairP unitP; simp only [e1, e2]
  rw [e]
  have l1 := mf_shr s
  have d1 := fun {S : Snap} {M : List Chunk} (w : World) (a : Option Addr) (n c : Nat) (hvb : RSl S (.slice a n c) s.1) hm (hst : St S (DecC bd (.slice a n c) s :: M) w) => dks_c w bd a n c s hvb hm hst
  have d2 := fun {S : Snap} {M : List Chunk} (w : World) (a : Option Addr) (n c : Nat) (hvb : RSl S (.slice a n c) s1.1) hm (hst : St S (DecC bd (.slice a n c) s1 :: M) w) => listG_c w bd a n c s1 hvb hm hst
  rw [e1] at d1 l1
  rw [e2] at d2
  simp only at d1 d2 l1
  clear e e1 e2
  go_enter Tryd.func68, Tryd.ntmps68
  repeat' ((fail_if_success (with_reducible show Code.wp _ (Code.region 1 _ _) _ _ _)); first | ((fail_if_success (go_big_may)); (go_step)) | (((((refine s_alloc hst inX ?_; clear hst; intro bk w hst)))) <;> (try refine nX ?_) <;> (try replace hst := nH hst)))
  have hst := hst.perm (List.Perm.swap _ _ _)
  repeat' ((fail_if_success (with_reducible show Code.wp _ (Code.region 2 _ _) _ _ _)); first | (((with_reducible refine Sl.k_call ?_; ((refine s_call (d1 _ _ _ _ hvb hm hst) inX rfl ?_; clear hst; rintro v w ⟨S2, x1, x2, x3, u0, un, uc, hS2, rfl, hm1, a1, n1, c1, hvb1, hst⟩)))) <;> (try refine nX ?_) <;> (try replace hst := nH hst)) | ((fail_if_success (go_big_may)); (go_step)) | ((((first | (with_reducible refine Sl.k_store ?_; (refine s_store hst rfl _ BoxIn.h inX evX rfl lenOk oneOk (by simp) ?_); clear hst; intro w hst) | (refine s_alloc hst inX ?_; clear hst; intro bk w hst)))) <;> (try refine nX ?_) <;> (try replace hst := nH hst)))
  have hst := hst.perm (List.Perm.swap _ _ _)
  refine p_begin hst (by kernel_rfl) ?_; clear hst; intro w hst; (try refine nX ?_)
  refine p_take 1 (by repeat (first | exact panicQ_body | refine panicQ_then ?_ | refine panicQ_block ?_)) rfl (by kernel_rfl) (by kernel_rfl) (by kernel_rfl) rfl (fun _ _ => qt_move evX) ?_; (try refine nX ?_)
  refine p_take 2 (by repeat (first | exact panicQ_body | refine panicQ_then ?_ | refine panicQ_block ?_)) rfl (by kernel_rfl) (by kernel_rfl) (by kernel_rfl) rfl (fun _ _ => qt_move evX) ?_; (try refine nX ?_)
  refine p_take 3 (by repeat (first | exact panicQ_body | refine panicQ_then ?_ | refine panicQ_block ?_)) rfl (by kernel_rfl) (by kernel_rfl) (by kernel_rfl) rfl (fun _ _ => qt_mkf evX) ?_; (try refine nX ?_)
  refine p_two 0 4 rfl rfl (by kernel_rfl) ?_ ?_
  intro K hK; refine s_qt hst (qt_load rfl _ BoxIn.h inX rfl rfl) ?_; (try refine nX ?_); (try replace hst := nH hst); refine p_next hK ?_; clear hK K; (try refine nX ?_)
  refine p_one 4 rfl (by kernel_rfl) ?_; intro K hK; refine s_call (d2 _ _ _ _ hvb1 (by omega) hst) inX rfl ?_; clear hst; rintro v w ⟨S4, z0, zn, zc, hS4, rfl, ht, a3, n3, c3, hvb3, hst⟩; (try refine nX ?_); (try replace hst := nH hst); refine p_next hK ?_; clear hK K; (try refine nX ?_)
  refine p_one 5 rfl (by kernel_rfl) ?_; intro K hK; refine s_qt hst (qt_buildS (cs := [.int .i64 x1, .int .i64 x2, .int .i64 x3, .slice u0 un uc, .slice z0 zn zc]) inX inX (by kernel_rfl)) ?_; (try refine nX ?_); (try replace hst := nH hst); refine p_next hK ?_; clear hK K; (try refine nX ?_)
  refine p_one 6 rfl (by kernel_rfl) ?_; intro K hK; (first | refine s_stR hst rfl BoxIn.h evX asX inX rfl rfl ?_ | refine s_store hst rfl _ BoxIn.h inX evX rfl lenOk oneOk (by simp <;> omega) ?_); clear hst; intro w hst; (try refine nX ?_); (try replace hst := nH hst); refine p_next hK ?_; clear hK K; (try refine nX ?_)
  refine p_done (by kernel_rfl) ?_; rotate_left
  intro K hK; refine s_call (d2 _ _ _ _ hvb1 (by omega) hst) inX rfl ?_; clear hst; rintro v w ⟨S4, z0, zn, zc, hS4, rfl, ht, a3, n3, c3, hvb3, hst⟩; (try refine nX ?_); (try replace hst := nH hst); refine p_next hK ?_; clear hK K; (try refine nX ?_)
  refine p_one 0 rfl (by kernel_rfl) ?_; intro K hK; refine s_qt hst (qt_load rfl _ BoxIn.h inX rfl rfl) ?_; (try refine nX ?_); (try replace hst := nH hst); refine p_next hK ?_; clear hK K; (try refine nX ?_)
  refine p_one 5 rfl (by kernel_rfl) ?_; intro K hK; refine s_qt hst (qt_buildS (cs := [.int .i64 x1, .int .i64 x2, .int .i64 x3, .slice u0 un uc, .slice z0 zn zc]) inX inX (by kernel_rfl)) ?_; (try refine nX ?_); (try replace hst := nH hst); refine p_next hK ?_; clear hK K; (try refine nX ?_)
  refine p_one 6 rfl (by kernel_rfl) ?_; intro K hK; (first | refine s_stR hst rfl BoxIn.h evX asX inX rfl rfl ?_ | refine s_store hst rfl _ BoxIn.h inX evX rfl lenOk oneOk (by simp <;> omega) ?_); clear hst; intro w hst; (try refine nX ?_); (try replace hst := nH hst); refine p_next hK ?_; clear hK K; (try refine nX ?_)
  refine p_done (by kernel_rfl) ?_; rotate_left
  all_goals
    repeat' (((fail_if_success (go_big_may)); (go_step)))
    refine ret_cell rfl hst rfl 2 rfl inferInstance rfl rfl ?_
    exact ⟨_, rfl, S4, x1, x2, x3, u0, un, uc, z0, zn, zc, hS2.trans hS4, rfl, r_ro (Rep.mono hS4 hm1) ht, a3, n3, c3, hvb3, st_keep hst⟩
end Go.Proofs.YtlimhgamebnfeaaDoor

/- Package manifest: whole texts decoded. -/
--@hgp
--@flat
--@dg
--@ex0
namespace Go.Proofs.YtlimhgamebnfeaaDoor
set_option linter.unusedSimpArgs false
set_option linter.unusedVariables false
open Go.RowKit Go.Sl

theorem i64_0 : I64 0 := by unfold I64; omega
def zMF : MF := (0, 0, 0, [], ())
def zBU : BU := (zMF, [], [], ())
def zRO : RO := (zMF, [], ())
theorem r_zMF {S : Snap} : Rep.R S [.int .i64 0, .int .i64 0, .int .i64 0, .slice none 0 0] zMF := r_mf i64_0 i64_0 i64_0 nilSl
theorem r_zBU {S : Snap} : Rep.R S [.int .i64 0, .int .i64 0, .int .i64 0, .slice none 0 0, .slice none 0 0, .slice none 0 0] zBU := r_bu r_zMF nilSl nilSl
theorem r_zRO {S : Snap} : Rep.R S [.int .i64 0, .int .i64 0, .int .i64 0, .slice none 0 0, .slice none 0 0] zRO := r_ro r_zMF nilSl
theorem dec_err {α : Type} {p : PS → α × PS} {z x : α} {b r : List UInt8} {e : Nat} (h : p (b, 0) = (x, (r, e))) (he : e ≠ 0) : decP p z b = (z, e) := by unfold decP; rw [h]; rw [if_pos he]
theorem dec_long {α : Type} {p : PS → α × PS} {z x : α} {b r : List UInt8} (h : p (b, 0) = (x, (r, 0))) (he : r ≠ []) : decP p z b = (z, 7) := by unfold decP; rw [h]; rw [if_neg (by simp), if_pos he]
theorem dec_ok {α : Type} {p : PS → α × PS} {z x : α} {b : List UInt8} (h : p (b, 0) = (x, ([], 0))) : decP p z b = (x, 0) := by unfold decP; rw [h]; rw [if_neg (by simp), if_neg (by simp)]

abbrev DecMPost (S : Snap) (M : List Chunk) (r : MF × Nat) (v : Value) (w : World) : Prop :=
  ∃ S' x1 x2 x3 a0 n0 c0, S.Le S' ∧ v = .tuple #[.agg #[.int .i64 x1, .int .i64 x2, .int .i64 x3, .slice a0 n0 c0], .int .i64 (r.2 : Nat)] ∧ Rep.R S' [.int .i64 x1, .int .i64 x2, .int .i64 x3, .slice a0 n0 c0] r.1 ∧ St S' M w
set_option maxRecDepth 8000 in
set_option maxHeartbeats 2000000 in
theorem decodeM_c {S M} (w : World) (hst : St S M w) (b : List UInt8) (hm : b.length ≤ 1048576) :
    Rets Tryd.prog 56 [StrV b, .func (.func 57) #[] #[]] w fun v w' => DecMPost S M (decP mfP zMF b) v w' := by
  unfold Rets
  obtain ⟨⟨x, r, e⟩, hp⟩ : ∃ q, mfP (b, 0) = q := ⟨_, rfl⟩
  have d1 := fun {S : Snap} {M : List Chunk} (w : World) (bd : Nat) (a : Option Addr) (n c : Nat) (hvb : RSl S (.slice a n c) (b, 0).1) hm (hst : St S (DecC bd (.slice a n c) (b, 0) :: M) w) => dmf_c w bd a n c (b, 0) hvb hm hst
  rw [hp] at d1
  simp only at d1
  by_cases he : e = 0
  · subst he
    by_cases hr : r = []
    · subst hr
      rw [dec_ok hp]
      clear hp
      go_enter Tryd.func56, Tryd.ntmps56
      repeat' ((fail_if_success (with_reducible show Code.wp _ (Code.region 2 _ _) _ _ _)); first | (((with_reducible (refine Sl.k_conv ?_; (with_unfolding_all refine s_bytes (b := b) hst rfl StrT.u inX IntT.u (by omega) ?_); clear hst; intro v10 w hst; obtain ⟨ua, un, uc, rfl⟩ := sl_form hst; have fz := lit_u8 b hst rfl rfl; clear hst; obtain ⟨S1, hS1, hst, hvb⟩ := fz))) <;> (try refine nX ?_)) | ((fail_if_success (go_big_may)); (go_step)) | (with_reducible refine Sl.gate rfl ?_; (go_step)) | ((((first | (refine s_box hst evX rfl ?_; clear hst; intro bx w hst) | (refine s_alloc hst inX ?_; clear hst; intro bk w hst)))) <;> (try refine nX ?_) <;> (try replace hst := nH hst)))
      have hst : St S1 (DecC bx (.slice ua un uc) (b, 0) :: _) w := hst
      repeat' (((fail_if_success (go_big_may)); (go_step)))
      refine s_callv (d1 _ bx ua un uc hvb hm hst) rfl inX rfl rfl ?_
      clear hst
      rintro v w ⟨S2, x1, x2, x3, a0, n0, c0, hS2, rfl, hR, ra, rn, rc, hvr, hst⟩
      (try refine nX ?_)
      simp only [DecC] at hst
      repeat' (first | (((with_reducible refine Sl.k_guard ?_; ((refine Sl.guard_yes rfl ?_)))) <;> (try refine nX ?_)) | ((fail_if_success (go_big_may)); (go_step)) | ((first | (with_reducible refine Sl.k_load ?_; (refine s_qt hst (by exact qt_load rfl _ BoxIn.h inX rfl rfl) ?_)) | (with_reducible refine Sl.k_field ?_; (refine s_qt hst (qt_field rfl inX) ?_)) | (with_reducible refine Sl.k_call ?_; (refine s_qt hst (by exact qt_len evX asX inX) ?_))) <;> (try refine nX ?_)) | (with_reducible refine Sl.gate rfl ?_; (go_step)) | ((((first | (with_reducible refine Sl.k_store ?_; (refine s_store hst rfl _ BoxIn.h inX evX rfl lenOk oneOk (by simp) ?_); clear hst; intro w hst) | (refine s_alloc hst inX ?_; clear hst; intro bk w hst)))) <;> (try refine nX ?_) <;> (try replace hst := nH hst)))
      refine ret_two rfl (rv_cell hst rfl _ BoxIn.h inX rfl rfl) (rv_tmp rfl) ?_; (try simp only [nth, List.drop_zero, List.drop_succ_cons, List.take_succ_cons, List.take_zero, vOf_true, vOf_false])
      exact ⟨_, rfl, S2, x1, x2, x3, a0, n0, c0, hS1.trans hS2, rfl, hR, hst.drop.drop.drop⟩
    · rw [dec_long hp hr]
      clear hp
      have hl : 0 < r.length := List.length_pos_iff.2 hr
      go_enter Tryd.func56, Tryd.ntmps56
      repeat' ((fail_if_success (with_reducible show Code.wp _ (Code.region 2 _ _) _ _ _)); first | (((with_reducible (refine Sl.k_conv ?_; (with_unfolding_all refine s_bytes (b := b) hst rfl StrT.u inX IntT.u (by omega) ?_); clear hst; intro v10 w hst; obtain ⟨ua, un, uc, rfl⟩ := sl_form hst; have fz := lit_u8 b hst rfl rfl; clear hst; obtain ⟨S1, hS1, hst, hvb⟩ := fz))) <;> (try refine nX ?_)) | ((fail_if_success (go_big_may)); (go_step)) | (with_reducible refine Sl.gate rfl ?_; (go_step)) | ((((first | (refine s_box hst evX rfl ?_; clear hst; intro bx w hst) | (refine s_alloc hst inX ?_; clear hst; intro bk w hst)))) <;> (try refine nX ?_) <;> (try replace hst := nH hst)))
      have hst : St S1 (DecC bx (.slice ua un uc) (b, 0) :: _) w := hst
      repeat' (((fail_if_success (go_big_may)); (go_step)))
      refine s_callv (d1 _ bx ua un uc hvb hm hst) rfl inX rfl rfl ?_
      clear hst
      rintro v w ⟨S2, x1, x2, x3, a0, n0, c0, hS2, rfl, hR, ra, rn, rc, hvr, hst⟩
      (try refine nX ?_)
      simp only [DecC] at hst
      repeat' (first | (((with_reducible refine Sl.k_guard ?_; ((refine Sl.guard_yes rfl ?_)))) <;> (try refine nX ?_)) | ((fail_if_success (go_big_may)); (go_step)) | ((first | (with_reducible refine Sl.k_load ?_; (refine s_qt hst (by exact qt_load rfl _ BoxIn.h inX rfl rfl) ?_)) | (with_reducible refine Sl.k_field ?_; (refine s_qt hst (qt_field rfl inX) ?_)) | (with_reducible refine Sl.k_call ?_; (refine s_qt hst (by exact qt_len evX asX inX) ?_))) <;> (try refine nX ?_)) | (with_reducible refine Sl.gate rfl ?_; (go_step)) | ((((first | (with_reducible refine Sl.k_store ?_; (refine s_store hst rfl _ BoxIn.h inX evX rfl lenOk oneOk (by simp) ?_); clear hst; intro w hst) | (refine s_alloc hst inX ?_; clear hst; intro bk w hst)))) <;> (try refine nX ?_) <;> (try replace hst := nH hst)))
      refine p_begin hst (by kernel_rfl) ?_; clear hst; intro w hst; (try refine nX ?_)
      refine p_take 1 (by repeat (first | exact panicQ_body | refine panicQ_then ?_ | refine panicQ_block ?_)) rfl (by kernel_rfl) (by kernel_rfl) (by kernel_rfl) rfl (fun _ _ => qt_move evX) ?_; (try refine nX ?_)
      refine p_take 2 (by repeat (first | exact panicQ_body | refine panicQ_then ?_ | refine panicQ_block ?_)) rfl (by kernel_rfl) (by kernel_rfl) (by kernel_rfl) rfl (fun _ _ => qt_nil evX) ?_; (try refine nX ?_)
      refine p_take 3 (by repeat (first | exact panicQ_body | refine panicQ_then ?_ | refine panicQ_block ?_)) rfl (by kernel_rfl) (by kernel_rfl) (by kernel_rfl) rfl (fun _ _ => qt_field rfl inX) ?_; (try refine nX ?_)
      refine p_two 0 4 rfl rfl (by kernel_rfl) ?_ ?_
      intro K hK; refine s_qt hst (qt_load rfl _ BoxIn.h inX rfl rfl) ?_; (try refine nX ?_); (try replace hst := nH hst); refine p_next hK ?_; clear hK K; (try refine nX ?_)
      refine p_two 4 5 rfl rfl (by kernel_rfl) ?_ ?_
      intro K hK; refine s_qt hst (qt_load rfl _ BoxIn.h inX rfl rfl) ?_; (try refine nX ?_); (try replace hst := nH hst); refine p_next hK ?_; clear hK K; (try refine nX ?_)
      refine p_one 5 rfl (by kernel_rfl) ?_; intro K hK; (first | refine s_stR hst rfl BoxIn.h evX asX inX rfl rfl ?_ | refine s_store hst rfl _ BoxIn.h inX evX rfl lenOk oneOk (by simp <;> omega) ?_); clear hst; intro w hst; (try refine nX ?_); (try replace hst := nH hst); refine p_next hK ?_; clear hK K; (try refine nX ?_)
      refine p_take 6 (by repeat (first | exact panicQ_body | refine panicQ_then ?_ | refine panicQ_block ?_)) rfl (by kernel_rfl) (by kernel_rfl) (by kernel_rfl) rfl (fun _ _ => qt_assign evX) ?_; (try refine nX ?_)
      refine p_done (by kernel_rfl) ?_; rotate_left
      intro K hK; (first | refine s_stR hst rfl BoxIn.h evX asX inX rfl rfl ?_ | refine s_store hst rfl _ BoxIn.h inX evX rfl lenOk oneOk (by simp <;> omega) ?_); clear hst; intro w hst; (try refine nX ?_); (try replace hst := nH hst); refine p_next hK ?_; clear hK K; (try refine nX ?_)
      refine p_one 4 rfl (by kernel_rfl) ?_; intro K hK; refine s_qt hst (qt_load rfl _ BoxIn.h inX rfl rfl) ?_; (try refine nX ?_); (try replace hst := nH hst); refine p_next hK ?_; clear hK K; (try refine nX ?_)
      refine p_take 6 (by repeat (first | exact panicQ_body | refine panicQ_then ?_ | refine panicQ_block ?_)) rfl (by kernel_rfl) (by kernel_rfl) (by kernel_rfl) rfl (fun _ _ => qt_assign evX) ?_; (try refine nX ?_)
      refine p_done (by kernel_rfl) ?_; rotate_left
      intro K hK; refine s_qt hst (qt_load rfl _ BoxIn.h inX rfl rfl) ?_; (try refine nX ?_); (try replace hst := nH hst); refine p_next hK ?_; clear hK K; (try refine nX ?_)
      refine p_one 0 rfl (by kernel_rfl) ?_; intro K hK; refine s_qt hst (qt_load rfl _ BoxIn.h inX rfl rfl) ?_; (try refine nX ?_); (try replace hst := nH hst); refine p_next hK ?_; clear hK K; (try refine nX ?_)
      refine p_one 5 rfl (by kernel_rfl) ?_; intro K hK; (first | refine s_stR hst rfl BoxIn.h evX asX inX rfl rfl ?_ | refine s_store hst rfl _ BoxIn.h inX evX rfl lenOk oneOk (by simp <;> omega) ?_); clear hst; intro w hst; (try refine nX ?_); (try replace hst := nH hst); refine p_next hK ?_; clear hK K; (try refine nX ?_)
      refine p_take 6 (by repeat (first | exact panicQ_body | refine panicQ_then ?_ | refine panicQ_block ?_)) rfl (by kernel_rfl) (by kernel_rfl) (by kernel_rfl) rfl (fun _ _ => qt_assign evX) ?_; (try refine nX ?_)
      refine p_done (by kernel_rfl) ?_; rotate_left
      all_goals
        repeat' (((fail_if_success (go_big_may)); (go_step)))
        refine ret_two rfl (rv_cell hst rfl _ BoxIn.h inX rfl rfl) (rv_tmp rfl) ?_; (try simp only [nth, List.drop_zero, List.drop_succ_cons, List.take_succ_cons, List.take_zero, vOf_true, vOf_false])
        exact ⟨_, rfl, S2, 0, 0, 0, none, 0, 0, hS1.trans hS2, rfl, r_zMF, hst.drop.drop.drop.drop⟩
  · have h3 : (e : Int) ≠ 0 := by omega
    rw [dec_err hp he]
    clear hp
    go_enter Tryd.func56, Tryd.ntmps56
    repeat' ((fail_if_success (with_reducible show Code.wp _ (Code.region 2 _ _) _ _ _)); first | (((with_reducible (refine Sl.k_conv ?_; (with_unfolding_all refine s_bytes (b := b) hst rfl StrT.u inX IntT.u (by omega) ?_); clear hst; intro v10 w hst; obtain ⟨ua, un, uc, rfl⟩ := sl_form hst; have fz := lit_u8 b hst rfl rfl; clear hst; obtain ⟨S1, hS1, hst, hvb⟩ := fz))) <;> (try refine nX ?_)) | ((fail_if_success (go_big_may)); (go_step)) | (with_reducible refine Sl.gate rfl ?_; (go_step)) | ((((first | (refine s_box hst evX rfl ?_; clear hst; intro bx w hst) | (refine s_alloc hst inX ?_; clear hst; intro bk w hst)))) <;> (try refine nX ?_) <;> (try replace hst := nH hst)))
    have hst : St S1 (DecC bx (.slice ua un uc) (b, 0) :: _) w := hst
    repeat' (((fail_if_success (go_big_may)); (go_step)))
    refine s_callv (d1 _ bx ua un uc hvb hm hst) rfl inX rfl rfl ?_
    clear hst
    rintro v w ⟨S2, x1, x2, x3, a0, n0, c0, hS2, rfl, hR, ra, rn, rc, hvr, hst⟩
    (try refine nX ?_)
    simp only [DecC] at hst
    repeat' (first | go_skip | (((with_reducible refine Sl.k_guard ?_; ((refine Sl.guard_cases rfl ?_ ?_ <;> intro hg <;> first | (exfalso; simp only [decide_eq_true_eq, decide_eq_false_iff_not, Bool.not_false, Bool.not_true, beq_iff_eq, beq_eq_false_iff_ne, ne_eq] at hg; omega) | (simp only [hg, Bool.not_true, Bool.not_false])) <;> (try simp only [decide_eq_true_eq, decide_eq_false_iff_not, Bool.not_false, Bool.not_true, beq_iff_eq, beq_eq_false_iff_ne, bne_iff_ne, bne_eq_false_iff_eq, ne_eq] at hg)))) <;> (try refine nX ?_)) | ((fail_if_success (go_big_may)); (go_step)) | ((first | (with_reducible refine Sl.k_load ?_; (refine s_qt hst (by exact qt_load rfl _ BoxIn.h inX rfl rfl) ?_)) | (with_reducible refine Sl.k_field ?_; (refine s_qt hst (qt_field rfl inX) ?_))) <;> (try refine nX ?_)) | (with_reducible refine Sl.gate rfl ?_; (go_step)) | ((((first | (with_reducible refine Sl.k_store ?_; (refine s_store hst rfl _ BoxIn.h inX evX rfl lenOk oneOk (by simp) ?_); clear hst; intro w hst) | (refine s_alloc hst inX ?_; clear hst; intro bk w hst)))) <;> (try refine nX ?_) <;> (try replace hst := nH hst)))
    refine p_begin hst (by kernel_rfl) ?_; clear hst; intro w hst; (try refine nX ?_)
    refine p_take 1 (by repeat (first | exact panicQ_body | refine panicQ_then ?_ | refine panicQ_block ?_)) rfl (by kernel_rfl) (by kernel_rfl) (by kernel_rfl) rfl (fun _ _ => qt_move evX) ?_; (try refine nX ?_)
    refine p_take 2 (by repeat (first | exact panicQ_body | refine panicQ_then ?_ | refine panicQ_block ?_)) rfl (by kernel_rfl) (by kernel_rfl) (by kernel_rfl) rfl (fun _ _ => qt_nil evX) ?_; (try refine nX ?_)
    refine p_take 3 (by repeat (first | exact panicQ_body | refine panicQ_then ?_ | refine panicQ_block ?_)) rfl (by kernel_rfl) (by kernel_rfl) (by kernel_rfl) rfl (fun _ _ => qt_field rfl inX) ?_; (try refine nX ?_)
    refine p_two 0 4 rfl rfl (by kernel_rfl) ?_ ?_
    intro K hK; refine s_qt hst (qt_load rfl _ BoxIn.h inX rfl rfl) ?_; (try refine nX ?_); (try replace hst := nH hst); refine p_next hK ?_; clear hK K; (try refine nX ?_)
    refine p_two 4 5 rfl rfl (by kernel_rfl) ?_ ?_
    intro K hK; refine s_qt hst (qt_load rfl _ BoxIn.h inX rfl rfl) ?_; (try refine nX ?_); (try replace hst := nH hst); refine p_next hK ?_; clear hK K; (try refine nX ?_)
    refine p_one 5 rfl (by kernel_rfl) ?_; intro K hK; (first | refine s_stR hst rfl BoxIn.h evX asX inX rfl rfl ?_ | refine s_store hst rfl _ BoxIn.h inX evX rfl lenOk oneOk (by simp <;> omega) ?_); clear hst; intro w hst; (try refine nX ?_); (try replace hst := nH hst); refine p_next hK ?_; clear hK K; (try refine nX ?_)
    refine p_take 6 (by repeat (first | exact panicQ_body | refine panicQ_then ?_ | refine panicQ_block ?_)) rfl (by kernel_rfl) (by kernel_rfl) (by kernel_rfl) rfl (fun _ _ => qt_assign evX) ?_; (try refine nX ?_)
    refine p_done (by kernel_rfl) ?_; rotate_left
    intro K hK; (first | refine s_stR hst rfl BoxIn.h evX asX inX rfl rfl ?_ | refine s_store hst rfl _ BoxIn.h inX evX rfl lenOk oneOk (by simp <;> omega) ?_); clear hst; intro w hst; (try refine nX ?_); (try replace hst := nH hst); refine p_next hK ?_; clear hK K; (try refine nX ?_)
    refine p_one 4 rfl (by kernel_rfl) ?_; intro K hK; refine s_qt hst (qt_load rfl _ BoxIn.h inX rfl rfl) ?_; (try refine nX ?_); (try replace hst := nH hst); refine p_next hK ?_; clear hK K; (try refine nX ?_)
    refine p_take 6 (by repeat (first | exact panicQ_body | refine panicQ_then ?_ | refine panicQ_block ?_)) rfl (by kernel_rfl) (by kernel_rfl) (by kernel_rfl) rfl (fun _ _ => qt_assign evX) ?_; (try refine nX ?_)
    refine p_done (by kernel_rfl) ?_; rotate_left
    intro K hK; refine s_qt hst (qt_load rfl _ BoxIn.h inX rfl rfl) ?_; (try refine nX ?_); (try replace hst := nH hst); refine p_next hK ?_; clear hK K; (try refine nX ?_)
    refine p_one 0 rfl (by kernel_rfl) ?_; intro K hK; refine s_qt hst (qt_load rfl _ BoxIn.h inX rfl rfl) ?_; (try refine nX ?_); (try replace hst := nH hst); refine p_next hK ?_; clear hK K; (try refine nX ?_)
    refine p_one 5 rfl (by kernel_rfl) ?_; intro K hK; (first | refine s_stR hst rfl BoxIn.h evX asX inX rfl rfl ?_ | refine s_store hst rfl _ BoxIn.h inX evX rfl lenOk oneOk (by simp <;> omega) ?_); clear hst; intro w hst; (try refine nX ?_); (try replace hst := nH hst); refine p_next hK ?_; clear hK K; (try refine nX ?_)
    refine p_take 6 (by repeat (first | exact panicQ_body | refine panicQ_then ?_ | refine panicQ_block ?_)) rfl (by kernel_rfl) (by kernel_rfl) (by kernel_rfl) rfl (fun _ _ => qt_assign evX) ?_; (try refine nX ?_)
    refine p_done (by kernel_rfl) ?_; rotate_left
    all_goals
      repeat' (((fail_if_success (go_big_may)); (go_step)))
      refine ret_two rfl (rv_cell hst rfl _ BoxIn.h inX rfl rfl) (rv_tmp rfl) ?_; (try simp only [nth, List.drop_zero, List.drop_succ_cons, List.take_succ_cons, List.take_zero, vOf_true, vOf_false])
      exact ⟨_, rfl, S2, 0, 0, 0, none, 0, 0, hS1.trans hS2, rfl, r_zMF, hst.drop.drop.drop.drop⟩

set_option maxRecDepth 8000 in
set_option maxHeartbeats 2000000 in
theorem DecodeM_c {S M} (w : World) (hst : St S M w) (b : List UInt8) (hm : b.length ≤ 1048576) :
    Rets Tryd.prog 31 [StrV b] w fun v w' => DecMPost S M (decP mfP zMF b) v w' := by
  unfold Rets
  have d1 := fun {S : Snap} {M : List Chunk} (w : World) (hst : St S M w) => decodeM_c w hst b hm
  generalize decP mfP zMF b = r at *
  go_enter Tryd.func31, Tryd.ntmps31
  repeat' (first | (((with_reducible refine Sl.k_call ?_; ((refine s_call (d1 _ hst) inX rfl ?_; clear hst; rintro v w ⟨S2, x1, x2, x3, a0, n0, c0, hS2, rfl, hR, hst⟩)))) <;> (try refine nX ?_) <;> (try replace hst := nH hst)) | ((fail_if_success (go_big_may)); (go_step)) | (with_reducible refine Sl.gate rfl ?_; (go_step)) | ((((first | (with_reducible refine Sl.k_store ?_; (refine s_store hst rfl _ BoxIn.h inX evX rfl lenOk oneOk (by simp) ?_); clear hst; intro w hst) | (refine s_alloc hst inX ?_; clear hst; intro bk w hst)))) <;> (try refine nX ?_) <;> (try replace hst := nH hst)))
  refine ret_two rfl (rv_cell hst rfl _ BoxIn.h inX rfl rfl) (rv_tmp rfl) ?_; (try simp only [nth, List.drop_zero, List.drop_succ_cons, List.take_succ_cons, List.take_zero, vOf_true, vOf_false])
  exact ⟨_, rfl, S2, x1, x2, x3, a0, n0, c0, hS2, rfl, hR, hst.drop⟩

abbrev DecKPost (S : Snap) (M : List Chunk) (r : MF × Nat) (v : Value) (w : World) : Prop :=
  ∃ S' x1 x2 x3 a0 n0 c0, S.Le S' ∧ v = .tuple #[.agg #[.int .i64 x1, .int .i64 x2, .int .i64 x3, .slice a0 n0 c0], .int .i64 (r.2 : Nat)] ∧ Rep.R S' [.int .i64 x1, .int .i64 x2, .int .i64 x3, .slice a0 n0 c0] r.1 ∧ St S' M w
set_option maxRecDepth 8000 in
set_option maxHeartbeats 2000000 in
theorem decodeK_c {S M} (w : World) (hst : St S M w) (b : List UInt8) (hm : b.length ≤ 1048576) :
    Rets Tryd.prog 60 [StrV b, .func (.func 61) #[] #[]] w fun v w' => DecKPost S M (decP mfP zMF b) v w' := by
  unfold Rets
  obtain ⟨⟨x, r, e⟩, hp⟩ : ∃ q, mfP (b, 0) = q := ⟨_, rfl⟩
  have d1 := fun {S : Snap} {M : List Chunk} (w : World) (bd : Nat) (a : Option Addr) (n c : Nat) (hvb : RSl S (.slice a n c) (b, 0).1) hm (hst : St S (DecC bd (.slice a n c) (b, 0) :: M) w) => dks_c w bd a n c (b, 0) hvb hm hst
  rw [hp] at d1
  simp only at d1
  by_cases he : e = 0
  · subst he
    by_cases hr : r = []
    · subst hr
      rw [dec_ok hp]
      clear hp
      go_enter Tryd.func60, Tryd.ntmps60
      repeat' ((fail_if_success (with_reducible show Code.wp _ (Code.region 2 _ _) _ _ _)); first | (((with_reducible (refine Sl.k_conv ?_; (with_unfolding_all refine s_bytes (b := b) hst rfl StrT.u inX IntT.u (by omega) ?_); clear hst; intro v10 w hst; obtain ⟨ua, un, uc, rfl⟩ := sl_form hst; have fz := lit_u8 b hst rfl rfl; clear hst; obtain ⟨S1, hS1, hst, hvb⟩ := fz))) <;> (try refine nX ?_)) | ((fail_if_success (go_big_may)); (go_step)) | (with_reducible refine Sl.gate rfl ?_; (go_step)) | ((((first | (refine s_box hst evX rfl ?_; clear hst; intro bx w hst) | (refine s_alloc hst inX ?_; clear hst; intro bk w hst)))) <;> (try refine nX ?_) <;> (try replace hst := nH hst)))
      have hst : St S1 (DecC bx (.slice ua un uc) (b, 0) :: _) w := hst
      repeat' (((fail_if_success (go_big_may)); (go_step)))
      refine s_callv (d1 _ bx ua un uc hvb hm hst) rfl inX rfl rfl ?_
      clear hst
      rintro v w ⟨S2, x1, x2, x3, a0, n0, c0, hS2, rfl, hR, ra, rn, rc, hvr, hst⟩
      (try refine nX ?_)
      simp only [DecC] at hst
      repeat' (first | (((with_reducible refine Sl.k_guard ?_; ((refine Sl.guard_yes rfl ?_)))) <;> (try refine nX ?_)) | ((fail_if_success (go_big_may)); (go_step)) | ((first | (with_reducible refine Sl.k_load ?_; (refine s_qt hst (by exact qt_load rfl _ BoxIn.h inX rfl rfl) ?_)) | (with_reducible refine Sl.k_field ?_; (refine s_qt hst (qt_field rfl inX) ?_)) | (with_reducible refine Sl.k_call ?_; (refine s_qt hst (by exact qt_len evX asX inX) ?_))) <;> (try refine nX ?_)) | (with_reducible refine Sl.gate rfl ?_; (go_step)) | ((((first | (with_reducible refine Sl.k_store ?_; (refine s_store hst rfl _ BoxIn.h inX evX rfl lenOk oneOk (by simp) ?_); clear hst; intro w hst) | (refine s_alloc hst inX ?_; clear hst; intro bk w hst)))) <;> (try refine nX ?_) <;> (try replace hst := nH hst)))
      refine ret_two rfl (rv_cell hst rfl _ BoxIn.h inX rfl rfl) (rv_tmp rfl) ?_; (try simp only [nth, List.drop_zero, List.drop_succ_cons, List.take_succ_cons, List.take_zero, vOf_true, vOf_false])
      exact ⟨_, rfl, S2, x1, x2, x3, a0, n0, c0, hS1.trans hS2, rfl, hR, hst.drop.drop.drop⟩
    · rw [dec_long hp hr]
      clear hp
      have hl : 0 < r.length := List.length_pos_iff.2 hr
      go_enter Tryd.func60, Tryd.ntmps60
      repeat' ((fail_if_success (with_reducible show Code.wp _ (Code.region 2 _ _) _ _ _)); first | (((with_reducible (refine Sl.k_conv ?_; (with_unfolding_all refine s_bytes (b := b) hst rfl StrT.u inX IntT.u (by omega) ?_); clear hst; intro v10 w hst; obtain ⟨ua, un, uc, rfl⟩ := sl_form hst; have fz := lit_u8 b hst rfl rfl; clear hst; obtain ⟨S1, hS1, hst, hvb⟩ := fz))) <;> (try refine nX ?_)) | ((fail_if_success (go_big_may)); (go_step)) | (with_reducible refine Sl.gate rfl ?_; (go_step)) | ((((first | (refine s_box hst evX rfl ?_; clear hst; intro bx w hst) | (refine s_alloc hst inX ?_; clear hst; intro bk w hst)))) <;> (try refine nX ?_) <;> (try replace hst := nH hst)))
      have hst : St S1 (DecC bx (.slice ua un uc) (b, 0) :: _) w := hst
      repeat' (((fail_if_success (go_big_may)); (go_step)))
      refine s_callv (d1 _ bx ua un uc hvb hm hst) rfl inX rfl rfl ?_
      clear hst
      rintro v w ⟨S2, x1, x2, x3, a0, n0, c0, hS2, rfl, hR, ra, rn, rc, hvr, hst⟩
      (try refine nX ?_)
      simp only [DecC] at hst
      repeat' (first | (((with_reducible refine Sl.k_guard ?_; ((refine Sl.guard_yes rfl ?_)))) <;> (try refine nX ?_)) | ((fail_if_success (go_big_may)); (go_step)) | ((first | (with_reducible refine Sl.k_load ?_; (refine s_qt hst (by exact qt_load rfl _ BoxIn.h inX rfl rfl) ?_)) | (with_reducible refine Sl.k_field ?_; (refine s_qt hst (qt_field rfl inX) ?_)) | (with_reducible refine Sl.k_call ?_; (refine s_qt hst (by exact qt_len evX asX inX) ?_))) <;> (try refine nX ?_)) | (with_reducible refine Sl.gate rfl ?_; (go_step)) | ((((first | (with_reducible refine Sl.k_store ?_; (refine s_store hst rfl _ BoxIn.h inX evX rfl lenOk oneOk (by simp) ?_); clear hst; intro w hst) | (refine s_alloc hst inX ?_; clear hst; intro bk w hst)))) <;> (try refine nX ?_) <;> (try replace hst := nH hst)))
      refine p_begin hst (by kernel_rfl) ?_; clear hst; intro w hst; (try refine nX ?_)
      refine p_take 1 (by repeat (first | exact panicQ_body | refine panicQ_then ?_ | refine panicQ_block ?_)) rfl (by kernel_rfl) (by kernel_rfl) (by kernel_rfl) rfl (fun _ _ => qt_move evX) ?_; (try refine nX ?_)
      refine p_take 2 (by repeat (first | exact panicQ_body | refine panicQ_then ?_ | refine panicQ_block ?_)) rfl (by kernel_rfl) (by kernel_rfl) (by kernel_rfl) rfl (fun _ _ => qt_nil evX) ?_; (try refine nX ?_)
      refine p_take 3 (by repeat (first | exact panicQ_body | refine panicQ_then ?_ | refine panicQ_block ?_)) rfl (by kernel_rfl) (by kernel_rfl) (by kernel_rfl) rfl (fun _ _ => qt_field rfl inX) ?_; (try refine nX ?_)
      refine p_two 0 4 rfl rfl (by kernel_rfl) ?_ ?_
      intro K hK; refine s_qt hst (qt_load rfl _ BoxIn.h inX rfl rfl) ?_; (try refine nX ?_); (try replace hst := nH hst); refine p_next hK ?_; clear hK K; (try refine nX ?_)
      refine p_two 4 5 rfl rfl (by kernel_rfl) ?_ ?_
      intro K hK; refine s_qt hst (qt_load rfl _ BoxIn.h inX rfl rfl) ?_; (try refine nX ?_); (try replace hst := nH hst); refine p_next hK ?_; clear hK K; (try refine nX ?_)
      refine p_one 5 rfl (by kernel_rfl) ?_; intro K hK; (first | refine s_stR hst rfl BoxIn.h evX asX inX rfl rfl ?_ | refine s_store hst rfl _ BoxIn.h inX evX rfl lenOk oneOk (by simp <;> omega) ?_); clear hst; intro w hst; (try refine nX ?_); (try replace hst := nH hst); refine p_next hK ?_; clear hK K; (try refine nX ?_)
      refine p_take 6 (by repeat (first | exact panicQ_body | refine panicQ_then ?_ | refine panicQ_block ?_)) rfl (by kernel_rfl) (by kernel_rfl) (by kernel_rfl) rfl (fun _ _ => qt_assign evX) ?_; (try refine nX ?_)
      refine p_done (by kernel_rfl) ?_; rotate_left
      intro K hK; (first | refine s_stR hst rfl BoxIn.h evX asX inX rfl rfl ?_ | refine s_store hst rfl _ BoxIn.h inX evX rfl lenOk oneOk (by simp <;> omega) ?_); clear hst; intro w hst; (try refine nX ?_); (try replace hst := nH hst); refine p_next hK ?_; clear hK K; (try refine nX ?_)
      refine p_one 4 rfl (by kernel_rfl) ?_; intro K hK; refine s_qt hst (qt_load rfl _ BoxIn.h inX rfl rfl) ?_; (try refine nX ?_); (try replace hst := nH hst); refine p_next hK ?_; clear hK K; (try refine nX ?_)
      refine p_take 6 (by repeat (first | exact panicQ_body | refine panicQ_then ?_ | refine panicQ_block ?_)) rfl (by kernel_rfl) (by kernel_rfl) (by kernel_rfl) rfl (fun _ _ => qt_assign evX) ?_; (try refine nX ?_)
      refine p_done (by kernel_rfl) ?_; rotate_left
      intro K hK; refine s_qt hst (qt_load rfl _ BoxIn.h inX rfl rfl) ?_; (try refine nX ?_); (try replace hst := nH hst); refine p_next hK ?_; clear hK K; (try refine nX ?_)
      refine p_one 0 rfl (by kernel_rfl) ?_; intro K hK; refine s_qt hst (qt_load rfl _ BoxIn.h inX rfl rfl) ?_; (try refine nX ?_); (try replace hst := nH hst); refine p_next hK ?_; clear hK K; (try refine nX ?_)
      refine p_one 5 rfl (by kernel_rfl) ?_; intro K hK; (first | refine s_stR hst rfl BoxIn.h evX asX inX rfl rfl ?_ | refine s_store hst rfl _ BoxIn.h inX evX rfl lenOk oneOk (by simp <;> omega) ?_); clear hst; intro w hst; (try refine nX ?_); (try replace hst := nH hst); refine p_next hK ?_; clear hK K; (try refine nX ?_)
      refine p_take 6 (by repeat (first | exact panicQ_body | refine panicQ_then ?_ | refine panicQ_block ?_)) rfl (by kernel_rfl) (by kernel_rfl) (by kernel_rfl) rfl (fun _ _ => qt_assign evX) ?_; (try refine nX ?_)
      refine p_done (by kernel_rfl) ?_; rotate_left
      all_goals
        repeat' (((fail_if_success (go_big_may)); (go_step)))
        refine ret_two rfl (rv_cell hst rfl _ BoxIn.h inX rfl rfl) (rv_tmp rfl) ?_; (try simp only [nth, List.drop_zero, List.drop_succ_cons, List.take_succ_cons, List.take_zero, vOf_true, vOf_false])
        exact ⟨_, rfl, S2, 0, 0, 0, none, 0, 0, hS1.trans hS2, rfl, r_zMF, hst.drop.drop.drop.drop⟩
  · have h3 : (e : Int) ≠ 0 := by omega
    rw [dec_err hp he]
    clear hp
    go_enter Tryd.func60, Tryd.ntmps60
    repeat' ((fail_if_success (with_reducible show Code.wp _ (Code.region 2 _ _) _ _ _)); first | (((with_reducible (refine Sl.k_conv ?_; (with_unfolding_all refine s_bytes (b := b) hst rfl StrT.u inX IntT.u (by omega) ?_); clear hst; intro v10 w hst; obtain ⟨ua, un, uc, rfl⟩ := sl_form hst; have fz := lit_u8 b hst rfl rfl; clear hst; obtain ⟨S1, hS1, hst, hvb⟩ := fz))) <;> (try refine nX ?_)) | ((fail_if_success (go_big_may)); (go_step)) | (with_reducible refine Sl.gate rfl ?_; (go_step)) | ((((first | (refine s_box hst evX rfl ?_; clear hst; intro bx w hst) | (refine s_alloc hst inX ?_; clear hst; intro bk w hst)))) <;> (try refine nX ?_) <;> (try replace hst := nH hst)))
    have hst : St S1 (DecC bx (.slice ua un uc) (b, 0) :: _) w := hst
    repeat' (((fail_if_success (go_big_may)); (go_step)))
    refine s_callv (d1 _ bx ua un uc hvb hm hst) rfl inX rfl rfl ?_
    clear hst
    rintro v w ⟨S2, x1, x2, x3, a0, n0, c0, hS2, rfl, hR, ra, rn, rc, hvr, hst⟩
    (try refine nX ?_)
    simp only [DecC] at hst
    repeat' (first | go_skip | (((with_reducible refine Sl.k_guard ?_; ((refine Sl.guard_cases rfl ?_ ?_ <;> intro hg <;> first | (exfalso; simp only [decide_eq_true_eq, decide_eq_false_iff_not, Bool.not_false, Bool.not_true, beq_iff_eq, beq_eq_false_iff_ne, ne_eq] at hg; omega) | (simp only [hg, Bool.not_true, Bool.not_false])) <;> (try simp only [decide_eq_true_eq, decide_eq_false_iff_not, Bool.not_false, Bool.not_true, beq_iff_eq, beq_eq_false_iff_ne, bne_iff_ne, bne_eq_false_iff_eq, ne_eq] at hg)))) <;> (try refine nX ?_)) | ((fail_if_success (go_big_may)); (go_step)) | ((first | (with_reducible refine Sl.k_load ?_; (refine s_qt hst (by exact qt_load rfl _ BoxIn.h inX rfl rfl) ?_)) | (with_reducible refine Sl.k_field ?_; (refine s_qt hst (qt_field rfl inX) ?_))) <;> (try refine nX ?_)) | (with_reducible refine Sl.gate rfl ?_; (go_step)) | ((((first | (with_reducible refine Sl.k_store ?_; (refine s_store hst rfl _ BoxIn.h inX evX rfl lenOk oneOk (by simp) ?_); clear hst; intro w hst) | (refine s_alloc hst inX ?_; clear hst; intro bk w hst)))) <;> (try refine nX ?_) <;> (try replace hst := nH hst)))
    refine p_begin hst (by kernel_rfl) ?_; clear hst; intro w hst; (try refine nX ?_)
    refine p_take 1 (by repeat (first | exact panicQ_body | refine panicQ_then ?_ | refine panicQ_block ?_)) rfl (by kernel_rfl) (by kernel_rfl) (by kernel_rfl) rfl (fun _ _ => qt_move evX) ?_; (try refine nX ?_)
    refine p_take 2 (by repeat (first | exact panicQ_body | refine panicQ_then ?_ | refine panicQ_block ?_)) rfl (by kernel_rfl) (by kernel_rfl) (by kernel_rfl) rfl (fun _ _ => qt_nil evX) ?_; (try refine nX ?_)
    refine p_take 3 (by repeat (first | exact panicQ_body | refine panicQ_then ?_ | refine panicQ_block ?_)) rfl (by kernel_rfl) (by kernel_rfl) (by kernel_rfl) rfl (fun _ _ => qt_field rfl inX) ?_; (try refine nX ?_)
    refine p_two 0 4 rfl rfl (by kernel_rfl) ?_ ?_
    intro K hK; refine s_qt hst (qt_load rfl _ BoxIn.h inX rfl rfl) ?_; (try refine nX ?_); (try replace hst := nH hst); refine p_next hK ?_; clear hK K; (try refine nX ?_)
    refine p_two 4 5 rfl rfl (by kernel_rfl) ?_ ?_
    intro K hK; refine s_qt hst (qt_load rfl _ BoxIn.h inX rfl rfl) ?_; (try refine nX ?_); (try replace hst := nH hst); refine p_next hK ?_; clear hK K; (try refine nX ?_)
    refine p_one 5 rfl (by kernel_rfl) ?_; intro K hK; (first | refine s_stR hst rfl BoxIn.h evX asX inX rfl rfl ?_ | refine s_store hst rfl _ BoxIn.h inX evX rfl lenOk oneOk (by simp <;> omega) ?_); clear hst; intro w hst; (try refine nX ?_); (try replace hst := nH hst); refine p_next hK ?_; clear hK K; (try refine nX ?_)
    refine p_take 6 (by repeat (first | exact panicQ_body | refine panicQ_then ?_ | refine panicQ_block ?_)) rfl (by kernel_rfl) (by kernel_rfl) (by kernel_rfl) rfl (fun _ _ => qt_assign evX) ?_; (try refine nX ?_)
    refine p_done (by kernel_rfl) ?_; rotate_left
    intro K hK; (first | refine s_stR hst rfl BoxIn.h evX asX inX rfl rfl ?_ | refine s_store hst rfl _ BoxIn.h inX evX rfl lenOk oneOk (by simp <;> omega) ?_); clear hst; intro w hst; (try refine nX ?_); (try replace hst := nH hst); refine p_next hK ?_; clear hK K; (try refine nX ?_)
    refine p_one 4 rfl (by kernel_rfl) ?_; intro K hK; refine s_qt hst (qt_load rfl _ BoxIn.h inX rfl rfl) ?_; (try refine nX ?_); (try replace hst := nH hst); refine p_next hK ?_; clear hK K; (try refine nX ?_)
    refine p_take 6 (by repeat (first | exact panicQ_body | refine panicQ_then ?_ | refine panicQ_block ?_)) rfl (by kernel_rfl) (by kernel_rfl) (by kernel_rfl) rfl (fun _ _ => qt_assign evX) ?_; (try refine nX ?_)
    refine p_done (by kernel_rfl) ?_; rotate_left
    intro K hK; refine s_qt hst (qt_load rfl _ BoxIn.h inX rfl rfl) ?_; (try refine nX ?_); (try replace hst := nH hst); refine p_next hK ?_; clear hK K; (try refine nX ?_)
    refine p_one 0 rfl (by kernel_rfl) ?_; intro K hK; refine s_qt hst (qt_load rfl _ BoxIn.h inX rfl rfl) ?_; (try refine nX ?_); (try replace hst := nH hst); refine p_next hK ?_; clear hK K; (try refine nX ?_)
    refine p_one 5 rfl (by kernel_rfl) ?_; intro K hK; (first | refine s_stR hst rfl BoxIn.h evX asX inX rfl rfl ?_ | refine s_store hst rfl _ BoxIn.h inX evX rfl lenOk oneOk (by simp <;> omega) ?_); clear hst; intro w hst; (try refine nX ?_); (try replace hst := nH hst); refine p_next hK ?_; clear hK K; (try refine nX ?_)
    refine p_take 6 (by repeat (first | exact panicQ_body | refine panicQ_then ?_ | refine panicQ_block ?_)) rfl (by kernel_rfl) (by kernel_rfl) (by kernel_rfl) rfl (fun _ _ => qt_assign evX) ?_; (try refine nX ?_)
    refine p_done (by kernel_rfl) ?_; rotate_left
    all_goals
      repeat' (((fail_if_success (go_big_may)); (go_step)))
      refine ret_two rfl (rv_cell hst rfl _ BoxIn.h inX rfl rfl) (rv_tmp rfl) ?_; (try simp only [nth, List.drop_zero, List.drop_succ_cons, List.take_succ_cons, List.take_zero, vOf_true, vOf_false])
      exact ⟨_, rfl, S2, 0, 0, 0, none, 0, 0, hS1.trans hS2, rfl, r_zMF, hst.drop.drop.drop.drop⟩

set_option maxRecDepth 8000 in
set_option maxHeartbeats 2000000 in
theorem DecodeK_c {S M} (w : World) (hst : St S M w) (b : List UInt8) (hm : b.length ≤ 1048576) :
    Rets Tryd.prog 33 [StrV b] w fun v w' => DecKPost S M (decP mfP zMF b) v w' := by
  unfold Rets
  have d1 := fun {S : Snap} {M : List Chunk} (w : World) (hst : St S M w) => decodeK_c w hst b hm
  generalize decP mfP zMF b = r at *
  go_enter Tryd.func33, Tryd.ntmps33
  repeat' (first | (((with_reducible refine Sl.k_call ?_; ((refine s_call (d1 _ hst) inX rfl ?_; clear hst; rintro v w ⟨S2, x1, x2, x3, a0, n0, c0, hS2, rfl, hR, hst⟩)))) <;> (try refine nX ?_) <;> (try replace hst := nH hst)) | ((fail_if_success (go_big_may)); (go_step)) | (with_reducible refine Sl.gate rfl ?_; (go_step)) | ((((first | (with_reducible refine Sl.k_store ?_; (refine s_store hst rfl _ BoxIn.h inX evX rfl lenOk oneOk (by simp) ?_); clear hst; intro w hst) | (refine s_alloc hst inX ?_; clear hst; intro bk w hst)))) <;> (try refine nX ?_) <;> (try replace hst := nH hst)))
  refine ret_two rfl (rv_cell hst rfl _ BoxIn.h inX rfl rfl) (rv_tmp rfl) ?_; (try simp only [nth, List.drop_zero, List.drop_succ_cons, List.take_succ_cons, List.take_zero, vOf_true, vOf_false])
  exact ⟨_, rfl, S2, x1, x2, x3, a0, n0, c0, hS2, rfl, hR, hst.drop⟩

abbrev DecBPost (S : Snap) (M : List Chunk) (r : BU × Nat) (v : Value) (w : World) : Prop :=
  ∃ S' x1 x2 x3 a0 n0 c0 a1 n1 c1 a2 n2 c2, S.Le S' ∧ v = .tuple #[.agg #[.int .i64 x1, .int .i64 x2, .int .i64 x3, .slice a0 n0 c0, .slice a1 n1 c1, .slice a2 n2 c2], .int .i64 (r.2 : Nat)] ∧ Rep.R S' [.int .i64 x1, .int .i64 x2, .int .i64 x3, .slice a0 n0 c0, .slice a1 n1 c1, .slice a2 n2 c2] r.1 ∧ St S' M w
set_option maxRecDepth 8000 in
set_option maxHeartbeats 2000000 in
theorem decodeB_c {S M} (w : World) (hst : St S M w) (b : List UInt8) (hm : b.length ≤ 1048576) :
    Rets Tryd.prog 62 [StrV b, .func (.func 63) #[] #[]] w fun v w' => DecBPost S M (decP buP zBU b) v w' := by
  unfold Rets
  obtain ⟨⟨x, r, e⟩, hp⟩ : ∃ q, buP (b, 0) = q := ⟨_, rfl⟩
  have d1 := fun {S : Snap} {M : List Chunk} (w : World) (bd : Nat) (a : Option Addr) (n c : Nat) (hvb : RSl S (.slice a n c) (b, 0).1) hm (hst : St S (DecC bd (.slice a n c) (b, 0) :: M) w) => dbu_c w bd a n c (b, 0) hvb hm hst
  rw [hp] at d1
  simp only at d1
  by_cases he : e = 0
  · subst he
    by_cases hr : r = []
    · subst hr
      rw [dec_ok hp]
      clear hp
      go_enter Tryd.func62, Tryd.ntmps62
      repeat' ((fail_if_success (with_reducible show Code.wp _ (Code.region 2 _ _) _ _ _)); first | (((with_reducible (refine Sl.k_conv ?_; (with_unfolding_all refine s_bytes (b := b) hst rfl StrT.u inX IntT.u (by omega) ?_); clear hst; intro v10 w hst; obtain ⟨ua, un, uc, rfl⟩ := sl_form hst; have fz := lit_u8 b hst rfl rfl; clear hst; obtain ⟨S1, hS1, hst, hvb⟩ := fz))) <;> (try refine nX ?_)) | ((fail_if_success (go_big_may)); (go_step)) | (with_reducible refine Sl.gate rfl ?_; (go_step)) | ((((first | (refine s_box hst evX rfl ?_; clear hst; intro bx w hst) | (refine s_alloc hst inX ?_; clear hst; intro bk w hst)))) <;> (try refine nX ?_) <;> (try replace hst := nH hst)))
      have hst : St S1 (DecC bx (.slice ua un uc) (b, 0) :: _) w := hst
      repeat' (((fail_if_success (go_big_may)); (go_step)))
      refine s_callv (d1 _ bx ua un uc hvb hm hst) rfl inX rfl rfl ?_
      clear hst
      rintro v w ⟨S2, x1, x2, x3, a0, n0, c0, a1, n1, c1, a2, n2, c2, hS2, rfl, hR, ra, rn, rc, hvr, hst⟩
      (try refine nX ?_)
      simp only [DecC] at hst
      repeat' (first | (((with_reducible refine Sl.k_guard ?_; ((refine Sl.guard_yes rfl ?_)))) <;> (try refine nX ?_)) | ((fail_if_success (go_big_may)); (go_step)) | ((first | (with_reducible refine Sl.k_load ?_; (refine s_qt hst (by exact qt_load rfl _ BoxIn.h inX rfl rfl) ?_)) | (with_reducible refine Sl.k_field ?_; (refine s_qt hst (qt_field rfl inX) ?_)) | (with_reducible refine Sl.k_call ?_; (refine s_qt hst (by exact qt_len evX asX inX) ?_))) <;> (try refine nX ?_)) | (with_reducible refine Sl.gate rfl ?_; (go_step)) | ((((first | (with_reducible refine Sl.k_store ?_; (refine s_store hst rfl _ BoxIn.h inX evX rfl lenOk oneOk (by simp) ?_); clear hst; intro w hst) | (refine s_alloc hst inX ?_; clear hst; intro bk w hst)))) <;> (try refine nX ?_) <;> (try replace hst := nH hst)))
      refine ret_two rfl (rv_cell hst rfl _ BoxIn.h inX rfl rfl) (rv_tmp rfl) ?_; (try simp only [nth, List.drop_zero, List.drop_succ_cons, List.take_succ_cons, List.take_zero, vOf_true, vOf_false])
      exact ⟨_, rfl, S2, x1, x2, x3, a0, n0, c0, a1, n1, c1, a2, n2, c2, hS1.trans hS2, rfl, hR, hst.drop.drop.drop⟩
    · rw [dec_long hp hr]
      clear hp
      have hl : 0 < r.length := List.length_pos_iff.2 hr
      go_enter Tryd.func62, Tryd.ntmps62
      repeat' ((fail_if_success (with_reducible show Code.wp _ (Code.region 2 _ _) _ _ _)); first | (((with_reducible (refine Sl.k_conv ?_; (with_unfolding_all refine s_bytes (b := b) hst rfl StrT.u inX IntT.u (by omega) ?_); clear hst; intro v10 w hst; obtain ⟨ua, un, uc, rfl⟩ := sl_form hst; have fz := lit_u8 b hst rfl rfl; clear hst; obtain ⟨S1, hS1, hst, hvb⟩ := fz))) <;> (try refine nX ?_)) | ((fail_if_success (go_big_may)); (go_step)) | (with_reducible refine Sl.gate rfl ?_; (go_step)) | ((((first | (refine s_box hst evX rfl ?_; clear hst; intro bx w hst) | (refine s_alloc hst inX ?_; clear hst; intro bk w hst)))) <;> (try refine nX ?_) <;> (try replace hst := nH hst)))
      have hst : St S1 (DecC bx (.slice ua un uc) (b, 0) :: _) w := hst
      repeat' (((fail_if_success (go_big_may)); (go_step)))
      refine s_callv (d1 _ bx ua un uc hvb hm hst) rfl inX rfl rfl ?_
      clear hst
      rintro v w ⟨S2, x1, x2, x3, a0, n0, c0, a1, n1, c1, a2, n2, c2, hS2, rfl, hR, ra, rn, rc, hvr, hst⟩
      (try refine nX ?_)
      simp only [DecC] at hst
      repeat' (first | (((with_reducible refine Sl.k_guard ?_; ((refine Sl.guard_yes rfl ?_)))) <;> (try refine nX ?_)) | ((fail_if_success (go_big_may)); (go_step)) | ((first | (with_reducible refine Sl.k_load ?_; (refine s_qt hst (by exact qt_load rfl _ BoxIn.h inX rfl rfl) ?_)) | (with_reducible refine Sl.k_field ?_; (refine s_qt hst (qt_field rfl inX) ?_)) | (with_reducible refine Sl.k_call ?_; (refine s_qt hst (by exact qt_len evX asX inX) ?_))) <;> (try refine nX ?_)) | (with_reducible refine Sl.gate rfl ?_; (go_step)) | ((((first | (with_reducible refine Sl.k_store ?_; (refine s_store hst rfl _ BoxIn.h inX evX rfl lenOk oneOk (by simp) ?_); clear hst; intro w hst) | (refine s_alloc hst inX ?_; clear hst; intro bk w hst)))) <;> (try refine nX ?_) <;> (try replace hst := nH hst)))
      refine p_begin hst (by kernel_rfl) ?_; clear hst; intro w hst; (try refine nX ?_)
      refine p_take 1 (by repeat (first | exact panicQ_body | refine panicQ_then ?_ | refine panicQ_block ?_)) rfl (by kernel_rfl) (by kernel_rfl) (by kernel_rfl) rfl (fun _ _ => qt_move evX) ?_; (try refine nX ?_)
      refine p_take 2 (by repeat (first | exact panicQ_body | refine panicQ_then ?_ | refine panicQ_block ?_)) rfl (by kernel_rfl) (by kernel_rfl) (by kernel_rfl) rfl (fun _ _ => qt_nil evX) ?_; (try refine nX ?_)
      refine p_take 3 (by repeat (first | exact panicQ_body | refine panicQ_then ?_ | refine panicQ_block ?_)) rfl (by kernel_rfl) (by kernel_rfl) (by kernel_rfl) rfl (fun _ _ => qt_field rfl inX) ?_; (try refine nX ?_)
      refine p_two 0 4 rfl rfl (by kernel_rfl) ?_ ?_
      intro K hK; refine s_qt hst (qt_load rfl _ BoxIn.h inX rfl rfl) ?_; (try refine nX ?_); (try replace hst := nH hst); refine p_next hK ?_; clear hK K; (try refine nX ?_)
      refine p_two 4 5 rfl rfl (by kernel_rfl) ?_ ?_
      intro K hK; refine s_qt hst (qt_load rfl _ BoxIn.h inX rfl rfl) ?_; (try refine nX ?_); (try replace hst := nH hst); refine p_next hK ?_; clear hK K; (try refine nX ?_)
      refine p_one 5 rfl (by kernel_rfl) ?_; intro K hK; (first | refine s_stR hst rfl BoxIn.h evX asX inX rfl rfl ?_ | refine s_store hst rfl _ BoxIn.h inX evX rfl lenOk oneOk (by simp <;> omega) ?_); clear hst; intro w hst; (try refine nX ?_); (try replace hst := nH hst); refine p_next hK ?_; clear hK K; (try refine nX ?_)
      refine p_take 6 (by repeat (first | exact panicQ_body | refine panicQ_then ?_ | refine panicQ_block ?_)) rfl (by kernel_rfl) (by kernel_rfl) (by kernel_rfl) rfl (fun _ _ => qt_assign evX) ?_; (try refine nX ?_)
      refine p_done (by kernel_rfl) ?_; rotate_left
      intro K hK; (first | refine s_stR hst rfl BoxIn.h evX asX inX rfl rfl ?_ | refine s_store hst rfl _ BoxIn.h inX evX rfl lenOk oneOk (by simp <;> omega) ?_); clear hst; intro w hst; (try refine nX ?_); (try replace hst := nH hst); refine p_next hK ?_; clear hK K; (try refine nX ?_)
      refine p_one 4 rfl (by kernel_rfl) ?_; intro K hK; refine s_qt hst (qt_load rfl _ BoxIn.h inX rfl rfl) ?_; (try refine nX ?_); (try replace hst := nH hst); refine p_next hK ?_; clear hK K; (try refine nX ?_)
      refine p_take 6 (by repeat (first | exact panicQ_body | refine panicQ_then ?_ | refine panicQ_block ?_)) rfl (by kernel_rfl) (by kernel_rfl) (by kernel_rfl) rfl (fun _ _ => qt_assign evX) ?_; (try refine nX ?_)
      refine p_done (by kernel_rfl) ?_; rotate_left
      intro K hK; refine s_qt hst (qt_load rfl _ BoxIn.h inX rfl rfl) ?_; (try refine nX ?_); (try replace hst := nH hst); refine p_next hK ?_; clear hK K; (try refine nX ?_)
      refine p_one 0 rfl (by kernel_rfl) ?_; intro K hK; refine s_qt hst (qt_load rfl _ BoxIn.h inX rfl rfl) ?_; (try refine nX ?_); (try replace hst := nH hst); refine p_next hK ?_; clear hK K; (try refine nX ?_)
      refine p_one 5 rfl (by kernel_rfl) ?_; intro K hK; (first | refine s_stR hst rfl BoxIn.h evX asX inX rfl rfl ?_ | refine s_store hst rfl _ BoxIn.h inX evX rfl lenOk oneOk (by simp <;> omega) ?_); clear hst; intro w hst; (try refine nX ?_); (try replace hst := nH hst); refine p_next hK ?_; clear hK K; (try refine nX ?_)
      refine p_take 6 (by repeat (first | exact panicQ_body | refine panicQ_then ?_ | refine panicQ_block ?_)) rfl (by kernel_rfl) (by kernel_rfl) (by kernel_rfl) rfl (fun _ _ => qt_assign evX) ?_; (try refine nX ?_)
      refine p_done (by kernel_rfl) ?_; rotate_left
      all_goals
        repeat' (((fail_if_success (go_big_may)); (go_step)))
        refine ret_two rfl (rv_cell hst rfl _ BoxIn.h inX rfl rfl) (rv_tmp rfl) ?_; (try simp only [nth, List.drop_zero, List.drop_succ_cons, List.take_succ_cons, List.take_zero, vOf_true, vOf_false])
        exact ⟨_, rfl, S2, 0, 0, 0, none, 0, 0, none, 0, 0, none, 0, 0, hS1.trans hS2, rfl, r_zBU, hst.drop.drop.drop.drop⟩
  · have h3 : (e : Int) ≠ 0 := by omega
    rw [dec_err hp he]
    clear hp
    go_enter Tryd.func62, Tryd.ntmps62
    repeat' ((fail_if_success (with_reducible show Code.wp _ (Code.region 2 _ _) _ _ _)); first | (((with_reducible (refine Sl.k_conv ?_; (with_unfolding_all refine s_bytes (b := b) hst rfl StrT.u inX IntT.u (by omega) ?_); clear hst; intro v10 w hst; obtain ⟨ua, un, uc, rfl⟩ := sl_form hst; have fz := lit_u8 b hst rfl rfl; clear hst; obtain ⟨S1, hS1, hst, hvb⟩ := fz))) <;> (try refine nX ?_)) | ((fail_if_success (go_big_may)); (go_step)) | (with_reducible refine Sl.gate rfl ?_; (go_step)) | ((((first | (refine s_box hst evX rfl ?_; clear hst; intro bx w hst) | (refine s_alloc hst inX ?_; clear hst; intro bk w hst)))) <;> (try refine nX ?_) <;> (try replace hst := nH hst)))
    have hst : St S1 (DecC bx (.slice ua un uc) (b, 0) :: _) w := hst
    repeat' (((fail_if_success (go_big_may)); (go_step)))
    refine s_callv (d1 _ bx ua un uc hvb hm hst) rfl inX rfl rfl ?_
    clear hst
    rintro v w ⟨S2, x1, x2, x3, a0, n0, c0, a1, n1, c1, a2, n2, c2, hS2, rfl, hR, ra, rn, rc, hvr, hst⟩
    (try refine nX ?_)
    simp only [DecC] at hst
    repeat' (first | go_skip | (((with_reducible refine Sl.k_guard ?_; ((refine Sl.guard_cases rfl ?_ ?_ <;> intro hg <;> first | (exfalso; simp only [decide_eq_true_eq, decide_eq_false_iff_not, Bool.not_false, Bool.not_true, beq_iff_eq, beq_eq_false_iff_ne, ne_eq] at hg; omega) | (simp only [hg, Bool.not_true, Bool.not_false])) <;> (try simp only [decide_eq_true_eq, decide_eq_false_iff_not, Bool.not_false, Bool.not_true, beq_iff_eq, beq_eq_false_iff_ne, bne_iff_ne, bne_eq_false_iff_eq, ne_eq] at hg)))) <;> (try refine nX ?_)) | ((fail_if_success (go_big_may)); (go_step)) | ((first | (with_reducible refine Sl.k_load ?_; (refine s_qt hst (by exact qt_load rfl _ BoxIn.h inX rfl rfl) ?_)) | (with_reducible refine Sl.k_field ?_; (refine s_qt hst (qt_field rfl inX) ?_))) <;> (try refine nX ?_)) | (with_reducible refine Sl.gate rfl ?_; (go_step)) | ((((first | (with_reducible refine Sl.k_store ?_; (refine s_store hst rfl _ BoxIn.h inX evX rfl lenOk oneOk (by simp) ?_); clear hst; intro w hst) | (refine s_alloc hst inX ?_; clear hst; intro bk w hst)))) <;> (try refine nX ?_) <;> (try replace hst := nH hst)))
    refine p_begin hst (by kernel_rfl) ?_; clear hst; intro w hst; (try refine nX ?_)
    refine p_take 1 (by repeat (first | exact panicQ_body | refine panicQ_then ?_ | refine panicQ_block ?_)) rfl (by kernel_rfl) (by kernel_rfl) (by kernel_rfl) rfl (fun _ _ => qt_move evX) ?_; (try refine nX ?_)
    refine p_take 2 (by repeat (first | exact panicQ_body | refine panicQ_then ?_ | refine panicQ_block ?_)) rfl (by kernel_rfl) (by kernel_rfl) (by kernel_rfl) rfl (fun _ _ => qt_nil evX) ?_; (try refine nX ?_)
    refine p_take 3 (by repeat (first | exact panicQ_body | refine panicQ_then ?_ | refine panicQ_block ?_)) rfl (by kernel_rfl) (by kernel_rfl) (by kernel_rfl) rfl (fun _ _ => qt_field rfl inX) ?_; (try refine nX ?_)
    refine p_two 0 4 rfl rfl (by kernel_rfl) ?_ ?_
    intro K hK; refine s_qt hst (qt_load rfl _ BoxIn.h inX rfl rfl) ?_; (try refine nX ?_); (try replace hst := nH hst); refine p_next hK ?_; clear hK K; (try refine nX ?_)
    refine p_two 4 5 rfl rfl (by kernel_rfl) ?_ ?_
    intro K hK; refine s_qt hst (qt_load rfl _ BoxIn.h inX rfl rfl) ?_; (try refine nX ?_); (try replace hst := nH hst); refine p_next hK ?_; clear hK K; (try refine nX ?_)
    refine p_one 5 rfl (by kernel_rfl) ?_; intro K hK; (first | refine s_stR hst rfl BoxIn.h evX asX inX rfl rfl ?_ | refine s_store hst rfl _ BoxIn.h inX evX rfl lenOk oneOk (by simp <;> omega) ?_); clear hst; intro w hst; (try refine nX ?_); (try replace hst := nH hst); refine p_next hK ?_; clear hK K; (try refine nX ?_)
    refine p_take 6 (by repeat (first | exact panicQ_body | refine panicQ_then ?_ | refine panicQ_block ?_)) rfl (by kernel_rfl) (by kernel_rfl) (by kernel_rfl) rfl (fun _ _ => qt_assign evX) ?_; (try refine nX ?_)
    refine p_done (by kernel_rfl) ?_; rotate_left
    intro K hK; (first | refine s_stR hst rfl BoxIn.h evX asX inX rfl rfl ?_ | refine s_store hst rfl _ BoxIn.h inX evX rfl lenOk oneOk (by simp <;> omega) ?_); clear hst; intro w hst; (try refine nX ?_); (try replace hst := nH hst); refine p_next hK ?_; clear hK K; (try refine nX ?_)
    refine p_one 4 rfl (by kernel_rfl) ?_; intro K hK; refine s_qt hst (qt_load rfl _ BoxIn.h inX rfl rfl) ?_; (try refine nX ?_); (try replace hst := nH hst); refine p_next hK ?_; clear hK K; (try refine nX ?_)
    refine p_take 6 (by repeat (first | exact panicQ_body | refine panicQ_then ?_ | refine panicQ_block ?_)) rfl (by kernel_rfl) (by kernel_rfl) (by kernel_rfl) rfl (fun _ _ => qt_assign evX) ?_; (try refine nX ?_)
    refine p_done (by kernel_rfl) ?_; rotate_left
    intro K hK; refine s_qt hst (qt_load rfl _ BoxIn.h inX rfl rfl) ?_; (try refine nX ?_); (try replace hst := nH hst); refine p_next hK ?_; clear hK K; (try refine nX ?_)
    refine p_one 0 rfl (by kernel_rfl) ?_; intro K hK; refine s_qt hst (qt_load rfl _ BoxIn.h inX rfl rfl) ?_; (try refine nX ?_); (try replace hst := nH hst); refine p_next hK ?_; clear hK K; (try refine nX ?_)
    refine p_one 5 rfl (by kernel_rfl) ?_; intro K hK; (first | refine s_stR hst rfl BoxIn.h evX asX inX rfl rfl ?_ | refine s_store hst rfl _ BoxIn.h inX evX rfl lenOk oneOk (by simp <;> omega) ?_); clear hst; intro w hst; (try refine nX ?_); (try replace hst := nH hst); refine p_next hK ?_; clear hK K; (try refine nX ?_)
    refine p_take 6 (by repeat (first | exact panicQ_body | refine panicQ_then ?_ | refine panicQ_block ?_)) rfl (by kernel_rfl) (by kernel_rfl) (by kernel_rfl) rfl (fun _ _ => qt_assign evX) ?_; (try refine nX ?_)
    refine p_done (by kernel_rfl) ?_; rotate_left
    all_goals
      repeat' (((fail_if_success (go_big_may)); (go_step)))
      refine ret_two rfl (rv_cell hst rfl _ BoxIn.h inX rfl rfl) (rv_tmp rfl) ?_; (try simp only [nth, List.drop_zero, List.drop_succ_cons, List.take_succ_cons, List.take_zero, vOf_true, vOf_false])
      exact ⟨_, rfl, S2, 0, 0, 0, none, 0, 0, none, 0, 0, none, 0, 0, hS1.trans hS2, rfl, r_zBU, hst.drop.drop.drop.drop⟩

set_option maxRecDepth 8000 in
set_option maxHeartbeats 2000000 in
theorem DecodeB_c {S M} (w : World) (hst : St S M w) (b : List UInt8) (hm : b.length ≤ 1048576) :
    Rets Tryd.prog 35 [StrV b] w fun v w' => DecBPost S M (decP buP zBU b) v w' := by
  unfold Rets
  have d1 := fun {S : Snap} {M : List Chunk} (w : World) (hst : St S M w) => decodeB_c w hst b hm
  generalize decP buP zBU b = r at *
  go_enter Tryd.func35, Tryd.ntmps35
  repeat' (first | (((with_reducible refine Sl.k_call ?_; ((refine s_call (d1 _ hst) inX rfl ?_; clear hst; rintro v w ⟨S2, x1, x2, x3, a0, n0, c0, a1, n1, c1, a2, n2, c2, hS2, rfl, hR, hst⟩)))) <;> (try refine nX ?_) <;> (try replace hst := nH hst)) | ((fail_if_success (go_big_may)); (go_step)) | (with_reducible refine Sl.gate rfl ?_; (go_step)) | ((((first | (with_reducible refine Sl.k_store ?_; (refine s_store hst rfl _ BoxIn.h inX evX rfl lenOk oneOk (by simp) ?_); clear hst; intro w hst) | (refine s_alloc hst inX ?_; clear hst; intro bk w hst)))) <;> (try refine nX ?_) <;> (try replace hst := nH hst)))
  refine ret_two rfl (rv_cell hst rfl _ BoxIn.h inX rfl rfl) (rv_tmp rfl) ?_; (try simp only [nth, List.drop_zero, List.drop_succ_cons, List.take_succ_cons, List.take_zero, vOf_true, vOf_false])
  exact ⟨_, rfl, S2, x1, x2, x3, a0, n0, c0, a1, n1, c1, a2, n2, c2, hS2, rfl, hR, hst.drop⟩

abbrev DecRPost (S : Snap) (M : List Chunk) (r : RO × Nat) (v : Value) (w : World) : Prop :=
  ∃ S' x1 x2 x3 a0 n0 c0 a1 n1 c1, S.Le S' ∧ v = .tuple #[.agg #[.int .i64 x1, .int .i64 x2, .int .i64 x3, .slice a0 n0 c0, .slice a1 n1 c1], .int .i64 (r.2 : Nat)] ∧ Rep.R S' [.int .i64 x1, .int .i64 x2, .int .i64 x3, .slice a0 n0 c0, .slice a1 n1 c1] r.1 ∧ St S' M w
set_option maxRecDepth 8000 in
set_option maxHeartbeats 2000000 in
theorem decodeR_c {S M} (w : World) (hst : St S M w) (b : List UInt8) (hm : b.length ≤ 1048576) :
    Rets Tryd.prog 67 [StrV b, .func (.func 68) #[] #[]] w fun v w' => DecRPost S M (decP roP zRO b) v w' := by
  unfold Rets
  obtain ⟨⟨x, r, e⟩, hp⟩ : ∃ q, roP (b, 0) = q := ⟨_, rfl⟩
  have d1 := fun {S : Snap} {M : List Chunk} (w : World) (bd : Nat) (a : Option Addr) (n c : Nat) (hvb : RSl S (.slice a n c) (b, 0).1) hm (hst : St S (DecC bd (.slice a n c) (b, 0) :: M) w) => dro_c w bd a n c (b, 0) hvb hm hst
  rw [hp] at d1
  simp only at d1
  by_cases he : e = 0
  · subst he
    by_cases hr : r = []
    · subst hr
      rw [dec_ok hp]
      clear hp
      go_enter Tryd.func67, Tryd.ntmps67
      repeat' ((fail_if_success (with_reducible show Code.wp _ (Code.region 2 _ _) _ _ _)); first | (((with_reducible (refine Sl.k_conv ?_; (with_unfolding_all refine s_bytes (b := b) hst rfl StrT.u inX IntT.u (by omega) ?_); clear hst; intro v10 w hst; obtain ⟨ua, un, uc, rfl⟩ := sl_form hst; have fz := lit_u8 b hst rfl rfl; clear hst; obtain ⟨S1, hS1, hst, hvb⟩ := fz))) <;> (try refine nX ?_)) | ((fail_if_success (go_big_may)); (go_step)) | (with_reducible refine Sl.gate rfl ?_; (go_step)) | ((((first | (refine s_box hst evX rfl ?_; clear hst; intro bx w hst) | (refine s_alloc hst inX ?_; clear hst; intro bk w hst)))) <;> (try refine nX ?_) <;> (try replace hst := nH hst)))
      have hst : St S1 (DecC bx (.slice ua un uc) (b, 0) :: _) w := hst
      repeat' (((fail_if_success (go_big_may)); (go_step)))
      refine s_callv (d1 _ bx ua un uc hvb hm hst) rfl inX rfl rfl ?_
      clear hst
      rintro v w ⟨S2, x1, x2, x3, a0, n0, c0, a1, n1, c1, hS2, rfl, hR, ra, rn, rc, hvr, hst⟩
      (try refine nX ?_)
      simp only [DecC] at hst
      repeat' (first | (((with_reducible refine Sl.k_guard ?_; ((refine Sl.guard_yes rfl ?_)))) <;> (try refine nX ?_)) | ((fail_if_success (go_big_may)); (go_step)) | ((first | (with_reducible refine Sl.k_load ?_; (refine s_qt hst (by exact qt_load rfl _ BoxIn.h inX rfl rfl) ?_)) | (with_reducible refine Sl.k_field ?_; (refine s_qt hst (qt_field rfl inX) ?_)) | (with_reducible refine Sl.k_call ?_; (refine s_qt hst (by exact qt_len evX asX inX) ?_))) <;> (try refine nX ?_)) | (with_reducible refine Sl.gate rfl ?_; (go_step)) | ((((first | (with_reducible refine Sl.k_store ?_; (refine s_store hst rfl _ BoxIn.h inX evX rfl lenOk oneOk (by simp) ?_); clear hst; intro w hst) | (refine s_alloc hst inX ?_; clear hst; intro bk w hst)))) <;> (try refine nX ?_) <;> (try replace hst := nH hst)))
      refine ret_two rfl (rv_cell hst rfl _ BoxIn.h inX rfl rfl) (rv_tmp rfl) ?_; (try simp only [nth, List.drop_zero, List.drop_succ_cons, List.take_succ_cons, List.take_zero, vOf_true, vOf_false])
      exact ⟨_, rfl, S2, x1, x2, x3, a0, n0, c0, a1, n1, c1, hS1.trans hS2, rfl, hR, hst.drop.drop.drop⟩
    · rw [dec_long hp hr]
      clear hp
      have hl : 0 < r.length := List.length_pos_iff.2 hr
      go_enter Tryd.func67, Tryd.ntmps67
      repeat' ((fail_if_success (with_reducible show Code.wp _ (Code.region 2 _ _) _ _ _)); first | (((with_reducible (refine Sl.k_conv ?_; (with_unfolding_all refine s_bytes (b := b) hst rfl StrT.u inX IntT.u (by omega) ?_); clear hst; intro v10 w hst; obtain ⟨ua, un, uc, rfl⟩ := sl_form hst; have fz := lit_u8 b hst rfl rfl; clear hst; obtain ⟨S1, hS1, hst, hvb⟩ := fz))) <;> (try refine nX ?_)) | ((fail_if_success (go_big_may)); (go_step)) | (with_reducible refine Sl.gate rfl ?_; (go_step)) | ((((first | (refine s_box hst evX rfl ?_; clear hst; intro bx w hst) | (refine s_alloc hst inX ?_; clear hst; intro bk w hst)))) <;> (try refine nX ?_) <;> (try replace hst := nH hst)))
      have hst : St S1 (DecC bx (.slice ua un uc) (b, 0) :: _) w := hst
      repeat' (((fail_if_success (go_big_may)); (go_step)))
      refine s_callv (d1 _ bx ua un uc hvb hm hst) rfl inX rfl rfl ?_
      clear hst
      rintro v w ⟨S2, x1, x2, x3, a0, n0, c0, a1, n1, c1, hS2, rfl, hR, ra, rn, rc, hvr, hst⟩
      (try refine nX ?_)
      simp only [DecC] at hst
      repeat' (first | (((with_reducible refine Sl.k_guard ?_; ((refine Sl.guard_yes rfl ?_)))) <;> (try refine nX ?_)) | ((fail_if_success (go_big_may)); (go_step)) | ((first | (with_reducible refine Sl.k_load ?_; (refine s_qt hst (by exact qt_load rfl _ BoxIn.h inX rfl rfl) ?_)) | (with_reducible refine Sl.k_field ?_; (refine s_qt hst (qt_field rfl inX) ?_)) | (with_reducible refine Sl.k_call ?_; (refine s_qt hst (by exact qt_len evX asX inX) ?_))) <;> (try refine nX ?_)) | (with_reducible refine Sl.gate rfl ?_; (go_step)) | ((((first | (with_reducible refine Sl.k_store ?_; (refine s_store hst rfl _ BoxIn.h inX evX rfl lenOk oneOk (by simp) ?_); clear hst; intro w hst) | (refine s_alloc hst inX ?_; clear hst; intro bk w hst)))) <;> (try refine nX ?_) <;> (try replace hst := nH hst)))
      refine p_begin hst (by kernel_rfl) ?_; clear hst; intro w hst; (try refine nX ?_)
      refine p_take 1 (by repeat (first | exact panicQ_body | refine panicQ_then ?_ | refine panicQ_block ?_)) rfl (by kernel_rfl) (by kernel_rfl) (by kernel_rfl) rfl (fun _ _ => qt_move evX) ?_; (try refine nX ?_)
      refine p_take 2 (by repeat (first | exact panicQ_body | refine panicQ_then ?_ | refine panicQ_block ?_)) rfl (by kernel_rfl) (by kernel_rfl) (by kernel_rfl) rfl (fun _ _ => qt_nil evX) ?_; (try refine nX ?_)
      refine p_take 3 (by repeat (first | exact panicQ_body | refine panicQ_then ?_ | refine panicQ_block ?_)) rfl (by kernel_rfl) (by kernel_rfl) (by kernel_rfl) rfl (fun _ _ => qt_field rfl inX) ?_; (try refine nX ?_)
      refine p_two 0 4 rfl rfl (by kernel_rfl) ?_ ?_
      intro K hK; refine s_qt hst (qt_load rfl _ BoxIn.h inX rfl rfl) ?_; (try refine nX ?_); (try replace hst := nH hst); refine p_next hK ?_; clear hK K; (try refine nX ?_)
      refine p_two 4 5 rfl rfl (by kernel_rfl) ?_ ?_
      intro K hK; refine s_qt hst (qt_load rfl _ BoxIn.h inX rfl rfl) ?_; (try refine nX ?_); (try replace hst := nH hst); refine p_next hK ?_; clear hK K; (try refine nX ?_)
      refine p_one 5 rfl (by kernel_rfl) ?_; intro K hK; (first | refine s_stR hst rfl BoxIn.h evX asX inX rfl rfl ?_ | refine s_store hst rfl _ BoxIn.h inX evX rfl lenOk oneOk (by simp <;> omega) ?_); clear hst; intro w hst; (try refine nX ?_); (try replace hst := nH hst); refine p_next hK ?_; clear hK K; (try refine nX ?_)
      refine p_take 6 (by repeat (first | exact panicQ_body | refine panicQ_then ?_ | refine panicQ_block ?_)) rfl (by kernel_rfl) (by kernel_rfl) (by kernel_rfl) rfl (fun _ _ => qt_assign evX) ?_; (try refine nX ?_)
      refine p_done (by kernel_rfl) ?_; rotate_left
      intro K hK; (first | refine s_stR hst rfl BoxIn.h evX asX inX rfl rfl ?_ | refine s_store hst rfl _ BoxIn.h inX evX rfl lenOk oneOk (by simp <;> omega) ?_); clear hst; intro w hst; (try refine nX ?_); (try replace hst := nH hst); refine p_next hK ?_; clear hK K; (try refine nX ?_)
      refine p_one 4 rfl (by kernel_rfl) ?_; intro K hK; refine s_qt hst (qt_load rfl _ BoxIn.h inX rfl rfl) ?_; (try refine nX ?_); (try replace hst := nH hst); refine p_next hK ?_; clear hK K; (try refine nX ?_)
      refine p_take 6 (by repeat (first | exact panicQ_body | refine panicQ_then ?_ | refine panicQ_block ?_)) rfl (by kernel_rfl) (by kernel_rfl) (by kernel_rfl) rfl (fun _ _ => qt_assign evX) ?_; (try refine nX ?_)
      refine p_done (by kernel_rfl) ?_; rotate_left
      intro K hK; refine s_qt hst (qt_load rfl _ BoxIn.h inX rfl rfl) ?_; (try refine nX ?_); (try replace hst := nH hst); refine p_next hK ?_; clear hK K; (try refine nX ?_)
      refine p_one 0 rfl (by kernel_rfl) ?_; intro K hK; refine s_qt hst (qt_load rfl _ BoxIn.h inX rfl rfl) ?_; (try refine nX ?_); (try replace hst := nH hst); refine p_next hK ?_; clear hK K; (try refine nX ?_)
      refine p_one 5 rfl (by kernel_rfl) ?_; intro K hK; (first | refine s_stR hst rfl BoxIn.h evX asX inX rfl rfl ?_ | refine s_store hst rfl _ BoxIn.h inX evX rfl lenOk oneOk (by simp <;> omega) ?_); clear hst; intro w hst; (try refine nX ?_); (try replace hst := nH hst); refine p_next hK ?_; clear hK K; (try refine nX ?_)
      refine p_take 6 (by repeat (first | exact panicQ_body | refine panicQ_then ?_ | refine panicQ_block ?_)) rfl (by kernel_rfl) (by kernel_rfl) (by kernel_rfl) rfl (fun _ _ => qt_assign evX) ?_; (try refine nX ?_)
      refine p_done (by kernel_rfl) ?_; rotate_left
      all_goals
        repeat' (((fail_if_success (go_big_may)); (go_step)))
        refine ret_two rfl (rv_cell hst rfl _ BoxIn.h inX rfl rfl) (rv_tmp rfl) ?_; (try simp only [nth, List.drop_zero, List.drop_succ_cons, List.take_succ_cons, List.take_zero, vOf_true, vOf_false])
        exact ⟨_, rfl, S2, 0, 0, 0, none, 0, 0, none, 0, 0, hS1.trans hS2, rfl, r_zRO, hst.drop.drop.drop.drop⟩
  · have h3 : (e : Int) ≠ 0 := by omega
    rw [dec_err hp he]
    clear hp
    go_enter Tryd.func67, Tryd.ntmps67
    repeat' ((fail_if_success (with_reducible show Code.wp _ (Code.region 2 _ _) _ _ _)); first | (((with_reducible (refine Sl.k_conv ?_; (with_unfolding_all refine s_bytes (b := b) hst rfl StrT.u inX IntT.u (by omega) ?_); clear hst; intro v10 w hst; obtain ⟨ua, un, uc, rfl⟩ := sl_form hst; have fz := lit_u8 b hst rfl rfl; clear hst; obtain ⟨S1, hS1, hst, hvb⟩ := fz))) <;> (try refine nX ?_)) | ((fail_if_success (go_big_may)); (go_step)) | (with_reducible refine Sl.gate rfl ?_; (go_step)) | ((((first | (refine s_box hst evX rfl ?_; clear hst; intro bx w hst) | (refine s_alloc hst inX ?_; clear hst; intro bk w hst)))) <;> (try refine nX ?_) <;> (try replace hst := nH hst)))
    have hst : St S1 (DecC bx (.slice ua un uc) (b, 0) :: _) w := hst
    repeat' (((fail_if_success (go_big_may)); (go_step)))
    refine s_callv (d1 _ bx ua un uc hvb hm hst) rfl inX rfl rfl ?_
    clear hst
    rintro v w ⟨S2, x1, x2, x3, a0, n0, c0, a1, n1, c1, hS2, rfl, hR, ra, rn, rc, hvr, hst⟩
    (try refine nX ?_)
    simp only [DecC] at hst
    repeat' (first | go_skip | (((with_reducible refine Sl.k_guard ?_; ((refine Sl.guard_cases rfl ?_ ?_ <;> intro hg <;> first | (exfalso; simp only [decide_eq_true_eq, decide_eq_false_iff_not, Bool.not_false, Bool.not_true, beq_iff_eq, beq_eq_false_iff_ne, ne_eq] at hg; omega) | (simp only [hg, Bool.not_true, Bool.not_false])) <;> (try simp only [decide_eq_true_eq, decide_eq_false_iff_not, Bool.not_false, Bool.not_true, beq_iff_eq, beq_eq_false_iff_ne, bne_iff_ne, bne_eq_false_iff_eq, ne_eq] at hg)))) <;> (try refine nX ?_)) | ((fail_if_success (go_big_may)); (go_step)) | ((first | (with_reducible refine Sl.k_load ?_; (refine s_qt hst (by exact qt_load rfl _ BoxIn.h inX rfl rfl) ?_)) | (with_reducible refine Sl.k_field ?_; (refine s_qt hst (qt_field rfl inX) ?_))) <;> (try refine nX ?_)) | (with_reducible refine Sl.gate rfl ?_; (go_step)) | ((((first | (with_reducible refine Sl.k_store ?_; (refine s_store hst rfl _ BoxIn.h inX evX rfl lenOk oneOk (by simp) ?_); clear hst; intro w hst) | (refine s_alloc hst inX ?_; clear hst; intro bk w hst)))) <;> (try refine nX ?_) <;> (try replace hst := nH hst)))
    refine p_begin hst (by kernel_rfl) ?_; clear hst; intro w hst; (try refine nX ?_)
    refine p_take 1 (by repeat (first | exact panicQ_body | refine panicQ_then ?_ | refine panicQ_block ?_)) rfl (by kernel_rfl) (by kernel_rfl) (by kernel_rfl) rfl (fun _ _ => qt_move evX) ?_; (try refine nX ?_)
    refine p_take 2 (by repeat (first | exact panicQ_body | refine panicQ_then ?_ | refine panicQ_block ?_)) rfl (by kernel_rfl) (by kernel_rfl) (by kernel_rfl) rfl (fun _ _ => qt_nil evX) ?_; (try refine nX ?_)
    refine p_take 3 (by repeat (first | exact panicQ_body | refine panicQ_then ?_ | refine panicQ_block ?_)) rfl (by kernel_rfl) (by kernel_rfl) (by kernel_rfl) rfl (fun _ _ => qt_field rfl inX) ?_; (try refine nX ?_)
    refine p_two 0 4 rfl rfl (by kernel_rfl) ?_ ?_
    intro K hK; refine s_qt hst (qt_load rfl _ BoxIn.h inX rfl rfl) ?_; (try refine nX ?_); (try replace hst := nH hst); refine p_next hK ?_; clear hK K; (try refine nX ?_)
    refine p_two 4 5 rfl rfl (by kernel_rfl) ?_ ?_
    intro K hK; refine s_qt hst (qt_load rfl _ BoxIn.h inX rfl rfl) ?_; (try refine nX ?_); (try replace hst := nH hst); refine p_next hK ?_; clear hK K; (try refine nX ?_)
    refine p_one 5 rfl (by kernel_rfl) ?_; intro K hK; (first | refine s_stR hst rfl BoxIn.h evX asX inX rfl rfl ?_ | refine s_store hst rfl _ BoxIn.h inX evX rfl lenOk oneOk (by simp <;> omega) ?_); clear hst; intro w hst; (try refine nX ?_); (try replace hst := nH hst); refine p_next hK ?_; clear hK K; (try refine nX ?_)
    refine p_take 6 (by repeat (first | exact panicQ_body | refine panicQ_then ?_ | refine panicQ_block ?_)) rfl (by kernel_rfl) (by kernel_rfl) (by kernel_rfl) rfl (fun _ _ => qt_assign evX) ?_; (try refine nX ?_)
    refine p_done (by kernel_rfl) ?_; rotate_left
    intro K hK; (first | refine s_stR hst rfl BoxIn.h evX asX inX rfl rfl ?_ | refine s_store hst rfl _ BoxIn.h inX evX rfl lenOk oneOk (by simp <;> omega) ?_); clear hst; intro w hst; (try refine nX ?_); (try replace hst := nH hst); refine p_next hK ?_; clear hK K; (try refine nX ?_)
    refine p_one 4 rfl (by kernel_rfl) ?_; intro K hK; refine s_qt hst (qt_load rfl _ BoxIn.h inX rfl rfl) ?_; (try refine nX ?_); (try replace hst := nH hst); refine p_next hK ?_; clear hK K; (try refine nX ?_)
    refine p_take 6 (by repeat (first | exact panicQ_body | refine panicQ_then ?_ | refine panicQ_block ?_)) rfl (by kernel_rfl) (by kernel_rfl) (by kernel_rfl) rfl (fun _ _ => qt_assign evX) ?_; (try refine nX ?_)
    refine p_done (by kernel_rfl) ?_; rotate_left
    intro K hK; refine s_qt hst (qt_load rfl _ BoxIn.h inX rfl rfl) ?_; (try refine nX ?_); (try replace hst := nH hst); refine p_next hK ?_; clear hK K; (try refine nX ?_)
    refine p_one 0 rfl (by kernel_rfl) ?_; intro K hK; refine s_qt hst (qt_load rfl _ BoxIn.h inX rfl rfl) ?_; (try refine nX ?_); (try replace hst := nH hst); refine p_next hK ?_; clear hK K; (try refine nX ?_)
    refine p_one 5 rfl (by kernel_rfl) ?_; intro K hK; (first | refine s_stR hst rfl BoxIn.h evX asX inX rfl rfl ?_ | refine s_store hst rfl _ BoxIn.h inX evX rfl lenOk oneOk (by simp <;> omega) ?_); clear hst; intro w hst; (try refine nX ?_); (try replace hst := nH hst); refine p_next hK ?_; clear hK K; (try refine nX ?_)
    refine p_take 6 (by repeat (first | exact panicQ_body | refine panicQ_then ?_ | refine panicQ_block ?_)) rfl (by kernel_rfl) (by kernel_rfl) (by kernel_rfl) rfl (fun _ _ => qt_assign evX) ?_; (try refine nX ?_)
    refine p_done (by kernel_rfl) ?_; rotate_left
    all_goals
      repeat' (((fail_if_success (go_big_may)); (go_step)))
      refine ret_two rfl (rv_cell hst rfl _ BoxIn.h inX rfl rfl) (rv_tmp rfl) ?_; (try simp only [nth, List.drop_zero, List.drop_succ_cons, List.take_succ_cons, List.take_zero, vOf_true, vOf_false])
      exact ⟨_, rfl, S2, 0, 0, 0, none, 0, 0, none, 0, 0, hS1.trans hS2, rfl, r_zRO, hst.drop.drop.drop.drop⟩

set_option maxRecDepth 8000 in
set_option maxHeartbeats 2000000 in
theorem DecodeR_c {S M} (w : World) (hst : St S M w) (b : List UInt8) (hm : b.length ≤ 1048576) :
    Rets Tryd.prog 37 [StrV b] w fun v w' => DecRPost S M (decP roP zRO b) v w' := by
  unfold Rets
  have d1 := fun {S : Snap} {M : List Chunk} (w : World) (hst : St S M w) => decodeR_c w hst b hm
  generalize decP roP zRO b = r at *
  go_enter Tryd.func37, Tryd.ntmps37
  repeat' (first | (((with_reducible refine Sl.k_call ?_; ((refine s_call (d1 _ hst) inX rfl ?_; clear hst; rintro v w ⟨S2, x1, x2, x3, a0, n0, c0, a1, n1, c1, hS2, rfl, hR, hst⟩)))) <;> (try refine nX ?_) <;> (try replace hst := nH hst)) | ((fail_if_success (go_big_may)); (go_step)) | (with_reducible refine Sl.gate rfl ?_; (go_step)) | ((((first | (with_reducible refine Sl.k_store ?_; (refine s_store hst rfl _ BoxIn.h inX evX rfl lenOk oneOk (by simp) ?_); clear hst; intro w hst) | (refine s_alloc hst inX ?_; clear hst; intro bk w hst)))) <;> (try refine nX ?_) <;> (try replace hst := nH hst)))
  refine ret_two rfl (rv_cell hst rfl _ BoxIn.h inX rfl rfl) (rv_tmp rfl) ?_; (try simp only [nth, List.drop_zero, List.drop_succ_cons, List.take_succ_cons, List.take_zero, vOf_true, vOf_false])
  exact ⟨_, rfl, S2, x1, x2, x3, a0, n0, c0, a1, n1, c1, hS2, rfl, hR, hst.drop⟩

end Go.Proofs.YtlimhgamebnfeaaDoor
