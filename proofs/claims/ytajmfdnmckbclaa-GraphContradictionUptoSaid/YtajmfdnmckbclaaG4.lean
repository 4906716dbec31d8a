/- Package graph: the closure 'visit' of 'Enclosing', walked against a model with fuel. -/
import Derived.Test.YtajmfdnmckbclaaG3
import Derived.Test.YtajmfdnmckbclaaSlF
import Derived.Deep.Cut
namespace Go.Proofs.Ytajmfdnmckbclaa
set_option linter.unusedSimpArgs false
set_option linter.unusedVariables false
open Go.RowKit Go.Sl

/-- A node: kind, number, name, children. -/
abbrev Nd := Int × Int × Str × List Int × Unit

structure VS where
  seen : List Bool
  out : List (Int × Int)
  found : List Bool

def isPoint (nd : Nd) (s : VS) : Bool := decide (nd.1 = 12) && (decide (0 ≤ nd.2.1) && (decide (nd.2.1 < s.out.length) && !(s.found.getD nd.2.1.toNat true)))
def inner (pt : Bool) (n : Int) (ar : Int × Int) (i : Nat) : Int × Int := if pt = true ∧ i = 2 then (n, 2) else if pt = true ∧ i = 1 then (n, 1) else ar
def enter (k : Nat) (nd : Nd) (ar : Int × Int) (s : VS) : VS :=
  if isPoint nd s then ⟨s.seen.set k true, s.out.set nd.2.1.toNat ar, s.found.set nd.2.1.toNat true⟩ else ⟨s.seen.set k true, s.out, s.found⟩
def goes (nodes : List Nd) (k : Int) (s : VS) : Option Nd := if k < 0 ∨ s.seen.getD k.toNat true = true then none else nodes[k.toNat]?

def visit (nodes : List Nd) : Nat → Int → Int × Int → VS → VS
  | 0, _, _, s => s
  | f + 1, k, ar, s =>
    match goes nodes k s with
    | none => s
    | some nd => (List.range nd.2.2.2.1.length).foldl (fun t i => visit nodes f (nd.2.2.2.1.getD i 0) (inner (isPoint nd s) nd.2.1 ar i) t) (enter k.toNat nd ar s)

/-- The state when so many children of a node have been visited. -/
def kids (nodes : List Nd) (f : Nat) (pt : Bool) (n : Int) (ar : Int × Int) (ofs : List Int) (e : VS) (i : Nat) : VS :=
  (List.range i).foldl (fun t i => visit nodes f (ofs.getD i 0) (inner pt n ar i) t) e

theorem kids_succ (nodes : List Nd) (f : Nat) (pt : Bool) (n : Int) (ar : Int × Int) (ofs : List Int) (e : VS) (i : Nat) :
    kids nodes f pt n ar ofs e (i + 1) = visit nodes f (ofs.getD i 0) (inner pt n ar i) (kids nodes f pt n ar ofs e i) := by
  simp [kids, List.range_succ, List.foldl_append]

theorem visit_some {nodes : List Nd} {f : Nat} {k : Int} {ar : Int × Int} {s : VS} {nd : Nd} (h : goes nodes k s = some nd) :
    visit nodes (f + 1) k ar s = kids nodes f (isPoint nd s) nd.2.1 ar nd.2.2.2.1 (enter k.toNat nd ar s) nd.2.2.2.1.length := by
  rw [visit, h]; rfl

/-- How many nodes are still unseen. -/
def left (s : VS) : Nat := s.seen.count false

structure Fits (nodes : List Nd) (np : Nat) (s : VS) : Prop where
  seen : s.seen.length = nodes.length
  out : s.out.length = np
  found : s.found.length = np

theorem Fits.enter {nodes : List Nd} {np : Nat} {s : VS} (h : Fits nodes np s) (k : Nat) (nd : Nd) (ar : Int × Int) : Fits nodes np (enter k nd ar s) := by
  unfold Proofs.Ytajmfdnmckbclaa.enter
  split <;> exact ⟨by simp [h.seen], by simp [h.out], by simp [h.found]⟩

theorem foldl_keeps {α β : Type} {p : α → Prop} {f : α → β → α} (h : ∀ a b, p a → p (f a b)) (l : List β) : ∀ a, p a → p (l.foldl f a) := by
  induction l with
  | nil => exact fun a h => h
  | cons b l ih => exact fun a ha => ih _ (h _ _ ha)

theorem visit_fits {nodes : List Nd} {np : Nat} : ∀ (f : Nat) (k : Int) (ar : Int × Int) (s : VS), Fits nodes np s → Fits nodes np (visit nodes f k ar s)
  | 0, _, _, _, h => h
  | f + 1, k, ar, s, h => by
    unfold visit
    split
    · exact h
    · exact foldl_keeps (p := Fits nodes np) (fun t i ht => visit_fits f _ _ t ht) _ _ (h.enter _ _ _)

theorem count_set {l : List Bool} {k : Nat} (h : l[k]? = some false) : (l.set k true).count false + 1 = l.count false := by
  induction l generalizing k with
  | nil => simp at h
  | cons b l ih =>
    cases k with
    | zero => simp at h; subst h; simp
    | succ k => simp at h; have := ih h; cases b <;> simp <;> omega

theorem enter_left {k : Nat} {nd : Nd} {ar : Int × Int} {s : VS} (h : s.seen[k]? = some false) : left (enter k nd ar s) + 1 = left s := by
  unfold enter left
  split <;> exact count_set h

theorem goes_some {nodes : List Nd} {k : Int} {s : VS} {nd : Nd} (h : goes nodes k s = some nd) : 0 ≤ k ∧ s.seen[k.toNat]? = some false ∧ nodes[k.toNat]? = some nd := by
  unfold goes at h
  split at h
  · cases h
  · rename_i hc
    refine ⟨by omega, ?_, h⟩
    have : ¬ s.seen.getD k.toNat true = true := fun e => hc (.inr e)
    rw [List.getD_eq_getElem?_getD] at this
    cases hs : s.seen[k.toNat]? with
    | none => rw [hs] at this; simp at this
    | some b => rw [hs] at this; cases b; rfl; simp at this

theorem visit_left {nodes : List Nd} : ∀ (f : Nat) (k : Int) (ar : Int × Int) (s : VS) (n : Nat), left s ≤ n → left (visit nodes f k ar s) ≤ n
  | 0, _, _, _, _, h => h
  | f + 1, k, ar, s, n, h => by
    unfold visit
    split
    · exact h
    · rename_i nd hg
      have := enter_left (nd := nd) (ar := ar) (goes_some hg).2.1
      exact foldl_keeps (p := fun s => left s ≤ n) (fun t i ht => visit_left f _ _ t n ht) _ _ (by omega)

theorem kids_fits {nodes : List Nd} {np : Nat} {f : Nat} {pt : Bool} {n : Int} {ar : Int × Int} {ofs : List Int} {e : VS} (h : Fits nodes np e) (i : Nat) : Fits nodes np (kids nodes f pt n ar ofs e i) :=
  foldl_keeps (p := Fits nodes np) (fun t i ht => visit_fits f _ _ t ht) _ _ h

theorem kids_left {nodes : List Nd} {m : Nat} {f : Nat} {pt : Bool} {n : Int} {ar : Int × Int} {ofs : List Int} {e : VS} (h : left e ≤ m) (i : Nat) : left (kids nodes f pt n ar ofs e i) ≤ m :=
  foldl_keeps (p := fun s => left s ≤ m) (fun t i ht => visit_left f _ _ t m ht) _ _ h

/-- What 'visit' owns and reads: five boxes, three slices. -/
def mv (bp bv bo bf bs : Nat) (pc : List Value) (vv vo vf fv : Value) (nn np : Nat) (s : VS) (M0 : List Chunk) : List Chunk :=
  .box bp pc 25 :: .box bv [vv] 43 :: .box bo [vo] 28 :: .box bf [vf] 43 :: .box bs [fv] 45 :: .sl vv 4 1 nn (cF boolC s.seen) :: .sl vo 30 2 np (cF pairC s.out) :: .sl vf 4 1 np (cF boolC s.found) :: M0

theorem getD_at {l : List Int} {i : Nat} (h : i < l.length) : l.getD i 0 = l[i] := by simp [List.getD, List.getElem?_eq_getElem h]
theorem getD_atB {l : List Bool} {i : Nat} (h : i < l.length) : l.getD i true = l[i] := by simp [List.getD, List.getElem?_eq_getElem h]

theorem mv_in {S : Snap} {w : World} {bp bv bo bf bs : Nat} {pc : List Value} {vv vo vf fv : Value} {nn np : Nat} {s : VS} {M0 : List Chunk} (A : List Chunk)
    (h : St S (A ++ mv bp bv bo bf bs pc vv vo vf fv nn np s M0) w) : St S (mv bp bv bo bf bs pc vv vo vf fv nn np s (A ++ M0)) w :=
  h.perm (List.perm_append_comm_assoc A (mv bp bv bo bf bs pc vv vo vf fv nn np s []) M0)

theorem mv_out {S : Snap} {w : World} {bp bv bo bf bs : Nat} {pc : List Value} {vv vo vf fv : Value} {nn np : Nat} {s : VS} {M0 : List Chunk} (A : List Chunk)
    (h : St S (mv bp bv bo bf bs pc vv vo vf fv nn np s (A ++ M0)) w) : St S (A ++ mv bp bv bo bf bs pc vv vo vf fv nn np s M0) w :=
  h.perm (List.perm_append_comm_assoc A (mv bp bv bo bf bs pc vv vo vf fv nn np s []) M0).symm

theorem prod_cells {α β : Type} [Rep α] [Rep β] {S : Snap} {cs : List Value} {x : α} {y : β} (h : Rep.R S cs (x, y)) : ∃ c1 c2, cs = c1 ++ c2 ∧ Rep.R S c1 x ∧ Rep.R S c2 y :=
  ⟨_, _, (List.take_append_drop (Rep.z α) cs).symm, h.2.1, h.2.2⟩

theorem node_cells {S : Snap} {cs : List Value} {nd : Nd} (h : Rep.R S cs nd) : ∃ vs, cs = [.int .i64 nd.1, .int .i64 nd.2.1, .string ⟨nd.2.2.1.b.toArray⟩, vs] ∧ RSl S vs nd.2.2.2.1 ∧ I64 nd.1 ∧ I64 nd.2.1 := by
  obtain ⟨kd, n, sb, ofs, u⟩ := nd
  obtain ⟨c1, r1, e1, ⟨rfl, i1⟩, h1⟩ := prod_cells h
  obtain ⟨c2, r2, e2, ⟨rfl, i2⟩, h2⟩ := prod_cells h1
  obtain ⟨c3, r3, e3, ⟨rfl, _⟩, h3⟩ := prod_cells h2
  obtain ⟨c4, r4, e4, ⟨v4, rfl, h4⟩, h5⟩ := prod_cells h3
  obtain rfl : r4 = [] := h5
  subst e4; subst e3; subst e2; subst e1
  exact ⟨v4, rfl, h4, i1, i2⟩

instance ty45 : Ty Try.prog 45 false 1 [.nilFunc] 8 := ⟨by kernel_rfl, by kernel_rfl, rfl, rfl, rfl, by simp⟩

set_option maxRecDepth 4000 in
set_option maxHeartbeats 2000000 in
theorem visit_c {S} (bp bv bo bf bs : Nat) (vi vn vv vo vf : Value) (root pts : Int) (np : Nat) (nodes : List Nd) (hn : RSl S vn nodes) (hnn : nodes.length ≤ 140737488355328) (hnp : np ≤ 8) :
    ∀ (f : Nat) (M0 : List Chunk) (k a b : Int) (s : VS) (w : World), I64 k → I64 a → I64 b → Fits nodes np s → left s < f →
    St S (mv bp bv bo bf bs [vi, vn, .int .i64 root, .int .i64 pts] vv vo vf (.func (.func 18) #[] #[.pointer (some ⟨bp, 0, none⟩), .pointer (some ⟨bv, 0, none⟩), .pointer (some ⟨bo, 0, none⟩), .pointer (some ⟨bf, 0, none⟩), .pointer (some ⟨bs, 0, none⟩)]) nodes.length np s M0) w →
    Rets Try.prog 18 [.int .i64 k, .agg #[.int .i64 a, .int .i64 b], .pointer (some ⟨bp, 0, none⟩), .pointer (some ⟨bv, 0, none⟩), .pointer (some ⟨bo, 0, none⟩), .pointer (some ⟨bf, 0, none⟩), .pointer (some ⟨bs, 0, none⟩)] w
      fun v w' => v = .tuple #[] ∧ St S (mv bp bv bo bf bs [vi, vn, .int .i64 root, .int .i64 pts] vv vo vf (.func (.func 18) #[] #[.pointer (some ⟨bp, 0, none⟩), .pointer (some ⟨bv, 0, none⟩), .pointer (some ⟨bo, 0, none⟩), .pointer (some ⟨bf, 0, none⟩), .pointer (some ⟨bs, 0, none⟩)]) nodes.length np (visit nodes f k (a, b) s) M0) w'
  | 0, _, _, _, _, _, _, _, _, _, _, h, _ => by omega
  | f + 1, M0, k, a, b, s, w, hk, ha, hb, hfit, hleft, hst => by
    have IH := Lib.hid (visit_c bp bv bo bf bs vi vn vv vo vf root pts np nodes hn hnn hnp f)
    have l1 := hfit.seen
    have l2 := hfit.out
    have l3 := hfit.found
    cases hg0 : goes nodes k s with
    | none =>
      have hv : visit nodes (f + 1) k (a, b) s = s := by rw [visit, hg0]
      rw [hv]
      have hq : k < 0 ∨ (0 ≤ k ∧ (nodes.length : Int) ≤ k) ∨ (0 ≤ k ∧ ∃ h : k.toNat < s.seen.length, s.seen[k.toNat] = true) := by
        unfold goes at hg0
        by_cases h0 : k < 0
        · exact .inl h0
        · by_cases h1 : (nodes.length : Int) ≤ k
          · exact .inr (.inl ⟨by omega, h1⟩)
          · refine .inr (.inr ⟨by omega, by omega, ?_⟩)
            have hk1 : k.toNat < s.seen.length := by omega
            have hk2 : k.toNat < nodes.length := by omega
            cases hb : s.seen[k.toNat] with
            | true => rfl
            | false =>
              rw [if_neg (by rw [getD_atB hk1, hb]; simp; omega), List.getElem?_eq_getElem hk2] at hg0
              cases hg0
      unfold mv at hst
      unfold Rets
      rcases hq with hq | ⟨hq, hq2⟩ | ⟨hq, hq1, hq2⟩
      all_goals (
        go_enter Try.func18, Try.ntmps18
        repeat' (first
           | go_skip
           | (with_reducible refine Sl.k_guard ?_; (first | (refine Sl.guard_yes rfl ?_) | (refine Sl.guard_no rfl ?_) | (refine Sl.guard_cases rfl ?_ ?_ <;> intro hg <;> first | (exfalso; simp only [decide_eq_true_eq, decide_eq_false_iff_not, Bool.not_false, Bool.not_true, beq_iff_eq, beq_eq_false_iff_ne, ne_eq] at hg; omega) | (simp only [hg, Bool.not_true, Bool.not_false]))) <;> (try simp only [List.set_cons_succ, List.set_cons_zero, vOf_true, vOf_false, List.drop_succ_cons, List.drop_zero, List.take_succ_cons, List.take_zero, putD, Int.toNat_zero, Int.reduceToNat, Nat.mul_one, Nat.zero_add, Nat.add_zero, Nat.reduceMul, Nat.reduceAdd, Nat.zero_mul]))
           | ((fail_if_success (go_big_may)); (first | go_skip | go_guarded | go_step))
           | ((first
                | (with_reducible refine Sl.k_load ?_; (first
                  | refine s_qt hst (qt_load rfl _ BoxIn.h inX rfl rfl) ?_
                  | (refine s_ex hst (qt_ldp_int evX asX inX) ?_; rintro v ⟨rfl, hI⟩)
                  | refine s_qt hst (by first | exact qt_ldp_u8 evX asX inX | exact qt_ldp_bool evX asX inX) ?_
                  | (refine s_ex hst (qt_ldp_str evX asX inX) ?_; rintro v ⟨rfl, hs⟩)
                  | (refine s_ex hst (qt_ldp_list evX asX inX) ?_; rintro v ⟨hvl, hv1⟩)
                  | (refine s_ex hst (qt_ldp evX asX inX) ?_; rintro v ⟨cl, rfl, hcl⟩)
                  | refine s_qt hst (by first | exact qt_ldB evX asX SlIn.h inX omX | exact qt_ldI evX asX SlIn.h inX omX | exact qt_ld2 evX asX SlIn.h inX omX | exact qt_load_own evX asX SlIn.h inX rfl (by simp; omega) | exact qt_load rfl _ asX inX rfl rfl) ?_))
                | (with_reducible refine Sl.k_field ?_; (first
                  | refine s_qt hst (qt_field rfl inX) ?_
                  | (refine s_ex hst (qt_fieldp evX asX inX inX rfl) ?_; rintro v hp; (try simp only [Int.toNat_natCast, Int.toNat_natCast_add_one, Int.reduceToNat] at hp))
                  | (refine s_ex hst (qt_field_own evX asX inX) ?_; rintro v hp; (try simp only [Int.toNat_natCast, Int.toNat_natCast_add_one, Int.reduceToNat] at hp))))
                | (with_reducible refine Sl.k_index ?_; (first
                  | refine s_qt hst (qt_indexA rfl rfl inX inX omX omX) ?_
                  | (refine s_ex hst (qt_indexP0 evX asX rfl inX inX) ?_; rintro v hp; (try simp only [Int.toNat_natCast, Int.toNat_natCast_add_one, Int.reduceToNat] at hp))
                  | (refine s_ex hst (qt_indexP1 evX asX rfl inX inX) ?_; rintro v hp; (try simp only [Int.toNat_natCast, Int.toNat_natCast_add_one, Int.reduceToNat] at hp))
                  | (refine s_ex hst (qt_index evX asX rfl inX inX omX omX) ?_; rintro v hp; (try simp only [Int.toNat_natCast, Int.toNat_natCast_add_one, Int.reduceToNat] at hp))
                  | (refine s_ex hst (qt_indexAp evX asX rfl inX inX rfl omX omX) ?_; rintro v hp; (try simp only [Int.toNat_natCast, Int.toNat_natCast_add_one, Int.reduceToNat] at hp))
                  | (refine s_ex hst (qt_index_own hst evX SlIn.h rfl inX inX omX omX) ?_; rintro v hp; (try simp only [Int.toNat_natCast, Int.toNat_natCast_add_one, Int.reduceToNat] at hp))))
                | (with_reducible refine Sl.k_call ?_; (first
                  | refine s_qt hst (by first | exact qt_len evX asX inX | exact qt_len_own evX SlIn.h inX | exact qt_max rfl rfl | exact qt_min rfl rfl) ?_))); simp only [List.set_cons_succ, List.set_cons_zero, vOf_true, vOf_false, List.drop_succ_cons, List.drop_zero, List.take_succ_cons, List.take_zero, putD, Int.toNat_zero, Int.reduceToNat, Nat.mul_one, Nat.zero_add, Nat.add_zero, Nat.reduceMul, Nat.reduceAdd, Nat.zero_mul])
           | (with_reducible refine Sl.gate rfl ?_; (first | go_skip | go_guarded | go_step))
           | ((first | (with_reducible refine Sl.k_store ?_; (first
                  | refine s_stR hst rfl BoxIn.h evX asX inX rfl rfl ?_
                  | refine s_store hst rfl _ BoxIn.h inX evX rfl lenOk oneOk (by simp) ?_
                  | refine s_st1 hst rfl BoxIn.h evX asX inX (by simp) ?_
                  | refine s_stB hst evX asX SlIn.h inX evX omX ?_
                  | refine s_stI hst evX asX SlIn.h inX evX omX ?_
                  | refine s_st2 hst evX asX SlIn.h inX evX omX ?_); clear hst; intro w hst) | (refine s_box hst evX rfl ?_; clear hst; intro bx w hst) | (refine s_alloc hst inX ?_; clear hst; intro bk w hst)); (try simp only [List.set_cons_succ, List.set_cons_zero, vOf_true, vOf_false, List.drop_succ_cons, List.drop_zero, List.take_succ_cons, List.take_zero, putD, Int.toNat_zero, Int.reduceToNat, Nat.mul_one, Nat.zero_add, Nat.add_zero, Nat.reduceMul, Nat.reduceAdd, Nat.zero_mul]); (try simp only [List.set_cons_succ, List.set_cons_zero, List.drop_succ_cons, List.drop_zero, List.take_succ_cons, List.take_zero, List.nil_append, List.cons_append, List.append_nil, Value.cells, List.eraseIdx_cons_zero, List.eraseIdx_cons_succ, Nat.zero_add, Nat.add_zero, List.flatten_cons, List.flatten_nil, List.map_cons, List.map_nil] at hst)))
        all_goals try (exfalso; simp [hq2] at hg; done)
        all_goals (refine bodyPost_ret (results_none rfl _ _ _) rfl ?_; exact ⟨_, rfl, rfl, hst.drop⟩))
    | some nd =>
      obtain ⟨hk0, hks, hkn⟩ := goes_some hg0
      obtain ⟨hkl, hks'⟩ := List.getElem?_eq_some_iff.1 hks
      obtain ⟨hkl2, hkn'⟩ := List.getElem?_eq_some_iff.1 hkn
      have h1i : I64 1 := by unfold I64; omega
      have h2i : I64 2 := by unfold I64; omega
      have hle : left (Proofs.Ytajmfdnmckbclaa.enter k.toNat nd (a, b) s) < f := by have := enter_left (nd := nd) (ar := (a, b)) hks; omega
      unfold mv at hst
      unfold Rets
      go_enter Try.func18, Try.ntmps18
      repeat' ((fail_if_success (with_reducible show Code.wp _ (Code.region 4 _ _) _ _ _)); first
         | go_skip
         | (with_reducible refine Sl.k_guard ?_; (first | (refine Sl.guard_yes rfl ?_) | (refine Sl.guard_no rfl ?_) | (refine Sl.guard_cases rfl ?_ ?_ <;> intro hg <;> first | (exfalso; simp only [decide_eq_true_eq, decide_eq_false_iff_not, Bool.not_false, Bool.not_true, beq_iff_eq, beq_eq_false_iff_ne, ne_eq] at hg; omega) | (simp only [hg, Bool.not_true, Bool.not_false]))) <;> (try simp only [List.set_cons_succ, List.set_cons_zero, vOf_true, vOf_false, List.drop_succ_cons, List.drop_zero, List.take_succ_cons, List.take_zero, putD, Int.toNat_zero, Int.reduceToNat, Nat.mul_one, Nat.zero_add, Nat.add_zero, Nat.reduceMul, Nat.reduceAdd, Nat.zero_mul]))
         | ((fail_if_success (go_big_may)); (first | go_skip | go_guarded | go_step))
         | ((first
              | (with_reducible refine Sl.k_load ?_; (first
                | refine s_qt hst (qt_load rfl _ BoxIn.h inX rfl rfl) ?_
                | (refine s_ex hst (qt_ldp_int evX asX inX) ?_; rintro v ⟨rfl, hI⟩)
                | refine s_qt hst (by first | exact qt_ldp_u8 evX asX inX | exact qt_ldp_bool evX asX inX) ?_
                | (refine s_ex hst (qt_ldp_str evX asX inX) ?_; rintro v ⟨rfl, hs⟩)
                | (refine s_ex hst (qt_ldp_list evX asX inX) ?_; rintro v ⟨hvl, hv1⟩)
                | (refine s_ex hst (qt_ldp evX asX inX) ?_; rintro v ⟨cl, rfl, hcl⟩)
                | refine s_qt hst (by first | exact qt_ldB evX asX SlIn.h inX omX | exact qt_ldI evX asX SlIn.h inX omX | exact qt_ld2 evX asX SlIn.h inX omX | exact qt_load_own evX asX SlIn.h inX rfl (by simp; omega) | exact qt_load rfl _ asX inX rfl rfl) ?_))
              | (with_reducible refine Sl.k_field ?_; (first
                | refine s_qt hst (qt_field rfl inX) ?_
                | (refine s_ex hst (qt_fieldp evX asX inX inX rfl) ?_; rintro v hp; (try simp only [Int.toNat_natCast, Int.toNat_natCast_add_one, Int.reduceToNat] at hp))
                | (refine s_ex hst (qt_field_own evX asX inX) ?_; rintro v hp; (try simp only [Int.toNat_natCast, Int.toNat_natCast_add_one, Int.reduceToNat] at hp))))
              | (with_reducible refine Sl.k_index ?_; (first
                | refine s_qt hst (qt_indexA rfl rfl inX inX omX omX) ?_
                | (refine s_ex hst (qt_indexP0 evX asX rfl inX inX) ?_; rintro v hp; (try simp only [Int.toNat_natCast, Int.toNat_natCast_add_one, Int.reduceToNat] at hp))
                | (refine s_ex hst (qt_indexP1 evX asX rfl inX inX) ?_; rintro v hp; (try simp only [Int.toNat_natCast, Int.toNat_natCast_add_one, Int.reduceToNat] at hp))
                | (refine s_ex hst (qt_index evX asX rfl inX inX omX omX) ?_; rintro v hp; (try simp only [Int.toNat_natCast, Int.toNat_natCast_add_one, Int.reduceToNat] at hp))
                | (refine s_ex hst (qt_indexAp evX asX rfl inX inX rfl omX omX) ?_; rintro v hp; (try simp only [Int.toNat_natCast, Int.toNat_natCast_add_one, Int.reduceToNat] at hp))
                | (refine s_ex hst (qt_index_own hst evX SlIn.h rfl inX inX omX omX) ?_; rintro v hp; (try simp only [Int.toNat_natCast, Int.toNat_natCast_add_one, Int.reduceToNat] at hp))))
              | (with_reducible refine Sl.k_call ?_; (first
                | refine s_qt hst (by first | exact qt_len evX asX inX | exact qt_len_own evX SlIn.h inX | exact qt_max rfl rfl | exact qt_min rfl rfl) ?_))); simp only [List.set_cons_succ, List.set_cons_zero, vOf_true, vOf_false, List.drop_succ_cons, List.drop_zero, List.take_succ_cons, List.take_zero, putD, Int.toNat_zero, Int.reduceToNat, Nat.mul_one, Nat.zero_add, Nat.add_zero, Nat.reduceMul, Nat.reduceAdd, Nat.zero_mul])
         | (with_reducible refine Sl.gate rfl ?_; (first | go_skip | go_guarded | go_step))
         | ((first | (with_reducible refine Sl.k_store ?_; (first
                | refine s_stR hst rfl BoxIn.h evX asX inX rfl rfl ?_
                | refine s_store hst rfl _ BoxIn.h inX evX rfl lenOk oneOk (by simp) ?_
                | refine s_st1 hst rfl BoxIn.h evX asX inX (by simp) ?_
                | refine s_stB hst evX asX SlIn.h inX evX omX ?_
                | refine s_stI hst evX asX SlIn.h inX evX omX ?_
                | refine s_st2 hst evX asX SlIn.h inX evX omX ?_); clear hst; intro w hst) | (refine s_box hst evX rfl ?_; clear hst; intro bx w hst) | (refine s_alloc hst inX ?_; clear hst; intro bk w hst)); (try simp only [List.set_cons_succ, List.set_cons_zero, vOf_true, vOf_false, List.drop_succ_cons, List.drop_zero, List.take_succ_cons, List.take_zero, putD, Int.toNat_zero, Int.reduceToNat, Nat.mul_one, Nat.zero_add, Nat.add_zero, Nat.reduceMul, Nat.reduceAdd, Nat.zero_mul]); (try simp only [List.set_cons_succ, List.set_cons_zero, List.drop_succ_cons, List.drop_zero, List.take_succ_cons, List.take_zero, List.nil_append, List.cons_append, List.append_nil, Value.cells, List.eraseIdx_cons_zero, List.eraseIdx_cons_succ, Nat.zero_add, Nat.add_zero, List.flatten_cons, List.flatten_nil, List.map_cons, List.map_nil] at hst)))
      rw [hkn'] at hcl
      obtain ⟨vs, rfl, hof, hI1, hI2⟩ := node_cells hcl
      clear hks hkn hkn'
      have hv1 := hof.oneCell
      have hofl : nd.2.2.2.1.length ≤ 9223372036854775807 := by obtain ⟨_, _, _, e1, e2⟩ := hof.form; simp only [maxLen] at e2; omega
      have hpt : (isPoint nd s = true ∧ nd.1 = 12 ∧ 0 ≤ nd.2.1 ∧ nd.2.1 < np ∧ ∃ h : nd.2.1.toNat < s.found.length, s.found[nd.2.1.toNat] = false) ∨
          (isPoint nd s = false ∧ (nd.1 ≠ 12 ∨ (nd.1 = 12 ∧ nd.2.1 < 0) ∨ (nd.1 = 12 ∧ 0 ≤ nd.2.1 ∧ (np : Int) ≤ nd.2.1) ∨ (nd.1 = 12 ∧ 0 ≤ nd.2.1 ∧ nd.2.1 < np ∧ ∃ h : nd.2.1.toNat < s.found.length, s.found[nd.2.1.toNat] = true))) := by
        by_cases c1 : nd.1 = 12
        · by_cases c2 : 0 ≤ nd.2.1
          · by_cases c3 : nd.2.1 < np
            · have c4 : nd.2.1.toNat < s.found.length := by omega
              cases c5 : s.found[nd.2.1.toNat] with
              | false => exact .inl ⟨by simp [isPoint, c1, c2, l2, c3, show s.found[nd.2.1.toNat]?.getD true = false from by rw [List.getElem?_eq_getElem c4]; exact c5], c1, c2, c3, c4, c5⟩
              | true => exact .inr ⟨by simp [isPoint, show s.found[nd.2.1.toNat]?.getD true = true from by rw [List.getElem?_eq_getElem c4]; exact c5], .inr (.inr (.inr ⟨c1, c2, c3, c4, c5⟩))⟩
            · exact .inr ⟨by simp [isPoint, l2, c3], .inr (.inr (.inl ⟨c1, c2, by omega⟩))⟩
          · exact .inr ⟨by simp [isPoint, c2], .inr (.inl ⟨c1, by omega⟩)⟩
        · exact .inr ⟨by simp [isPoint, c1], .inl c1⟩
      go_cut [10] from 37 (fun p wr => p = .bool (isPoint nd s) ∧ St S (.box bk [.int .i64 nd.1, .int .i64 nd.2.1, .string ⟨nd.2.2.1.b.toArray⟩, vs] 41 :: .box bx [.int .i64 a, .int .i64 b] 30 ::
            mv bp bv bo bf bs [vi, vn, .int .i64 root, .int .i64 pts] vv vo vf (.func (.func 18) #[] #[.pointer (some ⟨bp, 0, none⟩), .pointer (some ⟨bv, 0, none⟩), .pointer (some ⟨bo, 0, none⟩), .pointer (some ⟨bf, 0, none⟩), .pointer (some ⟨bs, 0, none⟩)]) nodes.length np ⟨s.seen.set k.toNat true, s.out, s.found⟩ M0) wr)
      case first =>
        rcases hpt with ⟨hip, q1, q2, q3, q4, q5⟩ | ⟨hip, q1 | ⟨q1, q2⟩ | ⟨q1, q2, q3⟩ | ⟨q1, q2, q3, q4, q5⟩⟩
        all_goals (
          repeat' (first
             | go_skip
             | (with_reducible refine Sl.k_guard ?_; (first | (refine Sl.guard_yes rfl ?_) | (refine Sl.guard_no rfl ?_) | (refine Sl.guard_cases rfl ?_ ?_ <;> intro hg <;> first | (exfalso; simp only [decide_eq_true_eq, decide_eq_false_iff_not, Bool.not_false, Bool.not_true, beq_iff_eq, beq_eq_false_iff_ne, ne_eq] at hg; omega) | (simp only [hg, Bool.not_true, Bool.not_false]))) <;> (try simp only [List.set_cons_succ, List.set_cons_zero, vOf_true, vOf_false, List.drop_succ_cons, List.drop_zero, List.take_succ_cons, List.take_zero, putD, Int.toNat_zero, Int.reduceToNat, Nat.mul_one, Nat.zero_add, Nat.add_zero, Nat.reduceMul, Nat.reduceAdd, Nat.zero_mul]))
             | ((fail_if_success (go_big_may)); (first | go_skip | go_guarded | go_step))
             | ((first
                  | (with_reducible refine Sl.k_load ?_; (first
                    | refine s_qt hst (qt_load rfl _ BoxIn.h inX rfl rfl) ?_
                    | (refine s_ex hst (qt_ldp_int evX asX inX) ?_; rintro v ⟨rfl, hI⟩)
                    | refine s_qt hst (by first | exact qt_ldp_u8 evX asX inX | exact qt_ldp_bool evX asX inX) ?_
                    | (refine s_ex hst (qt_ldp_str evX asX inX) ?_; rintro v ⟨rfl, hs⟩)
                    | (refine s_ex hst (qt_ldp_list evX asX inX) ?_; rintro v ⟨hvl, hv1⟩)
                    | (refine s_ex hst (qt_ldp evX asX inX) ?_; rintro v ⟨cl, rfl, hcl⟩)
                    | refine s_qt hst (by first | exact qt_ldB evX asX SlIn.h inX omX | exact qt_ldI evX asX SlIn.h inX omX | exact qt_ld2 evX asX SlIn.h inX omX | exact qt_load_own evX asX SlIn.h inX rfl (by simp; omega) | exact qt_load rfl _ asX inX rfl rfl) ?_))
                  | (with_reducible refine Sl.k_field ?_; (first
                    | refine s_qt hst (qt_field rfl inX) ?_
                    | (refine s_ex hst (qt_fieldp evX asX inX inX rfl) ?_; rintro v hp; (try simp only [Int.toNat_natCast, Int.toNat_natCast_add_one, Int.reduceToNat] at hp))
                    | (refine s_ex hst (qt_field_own evX asX inX) ?_; rintro v hp; (try simp only [Int.toNat_natCast, Int.toNat_natCast_add_one, Int.reduceToNat] at hp))))
                  | (with_reducible refine Sl.k_index ?_; (first
                    | refine s_qt hst (qt_indexA rfl rfl inX inX omX omX) ?_
                    | (refine s_ex hst (qt_indexP0 evX asX rfl inX inX) ?_; rintro v hp; (try simp only [Int.toNat_natCast, Int.toNat_natCast_add_one, Int.reduceToNat] at hp))
                    | (refine s_ex hst (qt_indexP1 evX asX rfl inX inX) ?_; rintro v hp; (try simp only [Int.toNat_natCast, Int.toNat_natCast_add_one, Int.reduceToNat] at hp))
                    | (refine s_ex hst (qt_index evX asX rfl inX inX omX omX) ?_; rintro v hp; (try simp only [Int.toNat_natCast, Int.toNat_natCast_add_one, Int.reduceToNat] at hp))
                    | (refine s_ex hst (qt_indexAp evX asX rfl inX inX rfl omX omX) ?_; rintro v hp; (try simp only [Int.toNat_natCast, Int.toNat_natCast_add_one, Int.reduceToNat] at hp))
                    | (refine s_ex hst (qt_index_own hst evX SlIn.h rfl inX inX omX omX) ?_; rintro v hp; (try simp only [Int.toNat_natCast, Int.toNat_natCast_add_one, Int.reduceToNat] at hp))))
                  | (with_reducible refine Sl.k_call ?_; (first
                    | refine s_qt hst (by first | exact qt_len evX asX inX | exact qt_len_own evX SlIn.h inX | exact qt_max rfl rfl | exact qt_min rfl rfl) ?_))); simp only [List.set_cons_succ, List.set_cons_zero, vOf_true, vOf_false, List.drop_succ_cons, List.drop_zero, List.take_succ_cons, List.take_zero, putD, Int.toNat_zero, Int.reduceToNat, Nat.mul_one, Nat.zero_add, Nat.add_zero, Nat.reduceMul, Nat.reduceAdd, Nat.zero_mul])
             | (with_reducible refine Sl.gate rfl ?_; (first | go_skip | go_guarded | go_step))
             | ((first | (with_reducible refine Sl.k_store ?_; (first
                    | refine s_stR hst rfl BoxIn.h evX asX inX rfl rfl ?_
                    | refine s_store hst rfl _ BoxIn.h inX evX rfl lenOk oneOk (by simp) ?_
                    | refine s_st1 hst rfl BoxIn.h evX asX inX (by simp) ?_
                    | refine s_stB hst evX asX SlIn.h inX evX omX ?_
                    | refine s_stI hst evX asX SlIn.h inX evX omX ?_
                    | refine s_st2 hst evX asX SlIn.h inX evX omX ?_); clear hst; intro w hst) | (refine s_box hst evX rfl ?_; clear hst; intro bx w hst) | (refine s_alloc hst inX ?_; clear hst; intro bk w hst)); (try simp only [List.set_cons_succ, List.set_cons_zero, vOf_true, vOf_false, List.drop_succ_cons, List.drop_zero, List.take_succ_cons, List.take_zero, putD, Int.toNat_zero, Int.reduceToNat, Nat.mul_one, Nat.zero_add, Nat.add_zero, Nat.reduceMul, Nat.reduceAdd, Nat.zero_mul]); (try simp only [List.set_cons_succ, List.set_cons_zero, List.drop_succ_cons, List.drop_zero, List.take_succ_cons, List.take_zero, List.nil_append, List.cons_append, List.append_nil, Value.cells, List.eraseIdx_cons_zero, List.eraseIdx_cons_succ, Nat.zero_add, Nat.add_zero, List.flatten_cons, List.flatten_nil, List.map_cons, List.map_nil] at hst)))
          all_goals try (exfalso; simp [q5] at hg; done)
          all_goals (go_meet; case rel => exact ⟨by rw [hip], hst⟩))
      case rest =>
        clear hst
        cases hip : isPoint nd s with
        | true =>
          rcases hpt with ⟨_, q1, q2, q3, q4, q5⟩ | ⟨hx, _⟩
          rotate_left
          · rw [hip] at hx; cases hx
          rw [hip] at hcut
          obtain ⟨rfl, hst⟩ := hcut
          unfold mv at hst
          have hent : Proofs.Ytajmfdnmckbclaa.enter k.toNat nd (a, b) s = ⟨s.seen.set k.toNat true, s.out.set nd.2.1.toNat (a, b), s.found.set nd.2.1.toNat true⟩ := by unfold Proofs.Ytajmfdnmckbclaa.enter; rw [if_pos hip]
          repeat' (first
             | go_skip
             | (with_reducible refine Sl.k_guard ?_; (first | (refine Sl.guard_yes rfl ?_) | (refine Sl.guard_no rfl ?_) | (refine Sl.guard_cases rfl ?_ ?_ <;> intro hg <;> first | (exfalso; simp only [decide_eq_true_eq, decide_eq_false_iff_not, Bool.not_false, Bool.not_true, beq_iff_eq, beq_eq_false_iff_ne, ne_eq] at hg; omega) | (simp only [hg, Bool.not_true, Bool.not_false]))) <;> (try simp only [List.set_cons_succ, List.set_cons_zero, vOf_true, vOf_false, List.drop_succ_cons, List.drop_zero, List.take_succ_cons, List.take_zero, putD, Int.toNat_zero, Int.reduceToNat, Nat.mul_one, Nat.zero_add, Nat.add_zero, Nat.reduceMul, Nat.reduceAdd, Nat.zero_mul]))
             | ((fail_if_success (go_big_may)); (first | go_skip | go_guarded | go_step))
             | ((first
                  | (with_reducible refine Sl.k_load ?_; (first
                    | refine s_qt hst (qt_load rfl _ BoxIn.h inX rfl rfl) ?_
                    | (refine s_ex hst (qt_ldp_int evX asX inX) ?_; rintro v ⟨rfl, hI⟩)
                    | refine s_qt hst (by first | exact qt_ldp_u8 evX asX inX | exact qt_ldp_bool evX asX inX) ?_
                    | (refine s_ex hst (qt_ldp_str evX asX inX) ?_; rintro v ⟨rfl, hs⟩)
                    | (refine s_ex hst (qt_ldp_list evX asX inX) ?_; rintro v ⟨hvl, hv1⟩)
                    | (refine s_ex hst (qt_ldp evX asX inX) ?_; rintro v ⟨cl, rfl, hcl⟩)
                    | refine s_qt hst (by first | exact qt_ldB evX asX SlIn.h inX omX | exact qt_ldI evX asX SlIn.h inX omX | exact qt_ld2 evX asX SlIn.h inX omX | exact qt_load_own evX asX SlIn.h inX rfl (by simp; omega) | exact qt_load rfl _ asX inX rfl rfl) ?_))
                  | (with_reducible refine Sl.k_field ?_; (first
                    | refine s_qt hst (qt_field rfl inX) ?_
                    | (refine s_ex hst (qt_fieldp evX asX inX inX rfl) ?_; rintro v hp; (try simp only [Int.toNat_natCast, Int.toNat_natCast_add_one, Int.reduceToNat] at hp))
                    | (refine s_ex hst (qt_field_own evX asX inX) ?_; rintro v hp; (try simp only [Int.toNat_natCast, Int.toNat_natCast_add_one, Int.reduceToNat] at hp))))
                  | (with_reducible refine Sl.k_index ?_; (first
                    | refine s_qt hst (qt_indexA rfl rfl inX inX omX omX) ?_
                    | (refine s_ex hst (qt_indexP0 evX asX rfl inX inX) ?_; rintro v hp; (try simp only [Int.toNat_natCast, Int.toNat_natCast_add_one, Int.reduceToNat] at hp))
                    | (refine s_ex hst (qt_indexP1 evX asX rfl inX inX) ?_; rintro v hp; (try simp only [Int.toNat_natCast, Int.toNat_natCast_add_one, Int.reduceToNat] at hp))
                    | (refine s_ex hst (qt_index evX asX rfl inX inX omX omX) ?_; rintro v hp; (try simp only [Int.toNat_natCast, Int.toNat_natCast_add_one, Int.reduceToNat] at hp))
                    | (refine s_ex hst (qt_indexAp evX asX rfl inX inX rfl omX omX) ?_; rintro v hp; (try simp only [Int.toNat_natCast, Int.toNat_natCast_add_one, Int.reduceToNat] at hp))
                    | (refine s_ex hst (qt_index_own hst evX SlIn.h rfl inX inX omX omX) ?_; rintro v hp; (try simp only [Int.toNat_natCast, Int.toNat_natCast_add_one, Int.reduceToNat] at hp))))
                  | (with_reducible refine Sl.k_call ?_; (first
                    | refine s_qt hst (by first | exact qt_len evX asX inX | exact qt_len_own evX SlIn.h inX | exact qt_max rfl rfl | exact qt_min rfl rfl) ?_))); simp only [List.set_cons_succ, List.set_cons_zero, vOf_true, vOf_false, List.drop_succ_cons, List.drop_zero, List.take_succ_cons, List.take_zero, putD, Int.toNat_zero, Int.reduceToNat, Nat.mul_one, Nat.zero_add, Nat.add_zero, Nat.reduceMul, Nat.reduceAdd, Nat.zero_mul])
             | (with_reducible refine Sl.gate rfl ?_; (first | go_skip | go_guarded | go_step))
             | ((first | (with_reducible refine Sl.k_store ?_; (first
                    | refine s_stR hst rfl BoxIn.h evX asX inX rfl rfl ?_
                    | refine s_store hst rfl _ BoxIn.h inX evX rfl lenOk oneOk (by simp) ?_
                    | refine s_st1 hst rfl BoxIn.h evX asX inX (by simp) ?_
                    | refine s_stB hst evX asX SlIn.h inX evX omX ?_
                    | refine s_stI hst evX asX SlIn.h inX evX omX ?_
                    | refine s_st2 hst evX asX SlIn.h inX evX omX ?_); clear hst; intro w hst) | (refine s_box hst evX rfl ?_; clear hst; intro bx w hst) | (refine s_alloc hst inX ?_; clear hst; intro bk w hst)); (try simp only [List.set_cons_succ, List.set_cons_zero, vOf_true, vOf_false, List.drop_succ_cons, List.drop_zero, List.take_succ_cons, List.take_zero, putD, Int.toNat_zero, Int.reduceToNat, Nat.mul_one, Nat.zero_add, Nat.add_zero, Nat.reduceMul, Nat.reduceAdd, Nat.zero_mul]); (try simp only [List.set_cons_succ, List.set_cons_zero, List.drop_succ_cons, List.drop_zero, List.take_succ_cons, List.take_zero, List.nil_append, List.cons_append, List.append_nil, Value.cells, List.eraseIdx_cons_zero, List.eraseIdx_cons_succ, Nat.zero_add, Nat.add_zero, List.flatten_cons, List.flatten_nil, List.map_cons, List.map_nil] at hst)))

          go_loopw [73] (fun v wr => ∃ i : Nat, i ≤ nd.2.2.2.1.length ∧ v = .int .i64 i ∧
            St S (.box bk [.int .i64 nd.1, .int .i64 nd.2.1, .string ⟨nd.2.2.1.b.toArray⟩, vs] 41 :: .box bx [.int .i64 a, .int .i64 b] 30 ::
              mv bp bv bo bf bs [vi, vn, .int .i64 root, .int .i64 pts] vv vo vf (.func (.func 18) #[] #[.pointer (some ⟨bp, 0, none⟩), .pointer (some ⟨bv, 0, none⟩), .pointer (some ⟨bo, 0, none⟩), .pointer (some ⟨bf, 0, none⟩), .pointer (some ⟨bs, 0, none⟩)]) nodes.length np (kids nodes f (isPoint nd s) nd.2.1 (a, b) nd.2.2.2.1 (Proofs.Ytajmfdnmckbclaa.enter k.toNat nd (a, b) s) i) M0) wr) (fun v _ => nd.2.2.2.1.length - (intOf v).toNat)
          case atStart => exact ⟨0, Nat.zero_le _, rfl, by rw [hent]; exact hst⟩
          case round =>
            clear hst
            obtain ⟨i, hi, rfl, hst⟩ := hrel
            unfold mv at hst
            by_cases hlt : i < nd.2.2.2.1.length
            · skip
              rcases (show (i = 1) ∨ (i = 2) ∨ (i ≠ 1 ∧ i ≠ 2) by omega) with hi1 | hi2 | ⟨hi1, hi2⟩
              · have hin : inner (isPoint nd s) nd.2.1 (a, b) i = (nd.2.1, 1) := by rw [hip]; subst hi1; rfl
                repeat' (first
                   | go_skip
                   | (with_reducible refine Sl.k_guard ?_; (first | (refine Sl.guard_yes rfl ?_) | (refine Sl.guard_no rfl ?_) | (refine Sl.guard_cases rfl ?_ ?_ <;> intro hg <;> first | (exfalso; simp only [decide_eq_true_eq, decide_eq_false_iff_not, Bool.not_false, Bool.not_true, beq_iff_eq, beq_eq_false_iff_ne, ne_eq] at hg; omega) | (simp only [hg, Bool.not_true, Bool.not_false]))) <;> (try simp only [List.set_cons_succ, List.set_cons_zero, vOf_true, vOf_false, List.drop_succ_cons, List.drop_zero, List.take_succ_cons, List.take_zero, putD, Int.toNat_zero, Int.reduceToNat, Nat.mul_one, Nat.zero_add, Nat.add_zero, Nat.reduceMul, Nat.reduceAdd, Nat.zero_mul]))
                   | ((fail_if_success (go_big_may)); (first | go_skip | go_guarded | go_step))
                   | ((first
                        | (with_reducible refine Sl.k_load ?_; (first
                          | refine s_qt hst (qt_load rfl _ BoxIn.h inX rfl rfl) ?_
                          | (refine s_ex hst (qt_ldp_int evX asX inX) ?_; rintro v ⟨rfl, hI⟩)
                          | refine s_qt hst (by first | exact qt_ldp_u8 evX asX inX | exact qt_ldp_bool evX asX inX) ?_
                          | (refine s_ex hst (qt_ldp_str evX asX inX) ?_; rintro v ⟨rfl, hs⟩)
                          | (refine s_ex hst (qt_ldp_list evX asX inX) ?_; rintro v ⟨hvl, hv1⟩)
                          | (refine s_ex hst (qt_ldp evX asX inX) ?_; rintro v ⟨cl, rfl, hcl⟩)
                          | refine s_qt hst (by first | exact qt_ldB evX asX SlIn.h inX omX | exact qt_ldI evX asX SlIn.h inX omX | exact qt_ld2 evX asX SlIn.h inX omX | exact qt_load_own evX asX SlIn.h inX rfl (by simp; omega) | exact qt_load rfl _ asX inX rfl rfl) ?_))
                        | (with_reducible refine Sl.k_field ?_; (first
                          | refine s_qt hst (qt_field rfl inX) ?_
                          | (refine s_ex hst (qt_fieldp evX asX inX inX rfl) ?_; rintro v hp; (try simp only [Int.toNat_natCast, Int.toNat_natCast_add_one, Int.reduceToNat] at hp))
                          | (refine s_ex hst (qt_field_own evX asX inX) ?_; rintro v hp; (try simp only [Int.toNat_natCast, Int.toNat_natCast_add_one, Int.reduceToNat] at hp))))
                        | (with_reducible refine Sl.k_index ?_; (first
                          | refine s_qt hst (qt_indexA rfl rfl inX inX omX omX) ?_
                          | (refine s_ex hst (qt_indexP0 evX asX rfl inX inX) ?_; rintro v hp; (try simp only [Int.toNat_natCast, Int.toNat_natCast_add_one, Int.reduceToNat] at hp))
                          | (refine s_ex hst (qt_indexP1 evX asX rfl inX inX) ?_; rintro v hp; (try simp only [Int.toNat_natCast, Int.toNat_natCast_add_one, Int.reduceToNat] at hp))
                          | (refine s_ex hst (qt_index evX asX rfl inX inX omX omX) ?_; rintro v hp; (try simp only [Int.toNat_natCast, Int.toNat_natCast_add_one, Int.reduceToNat] at hp))
                          | (refine s_ex hst (qt_indexAp evX asX rfl inX inX rfl omX omX) ?_; rintro v hp; (try simp only [Int.toNat_natCast, Int.toNat_natCast_add_one, Int.reduceToNat] at hp))
                          | (refine s_ex hst (qt_index_own hst evX SlIn.h rfl inX inX omX omX) ?_; rintro v hp; (try simp only [Int.toNat_natCast, Int.toNat_natCast_add_one, Int.reduceToNat] at hp))))
                        | (with_reducible refine Sl.k_call ?_; (first
                          | refine s_qt hst (by first | exact qt_len evX asX inX | exact qt_len_own evX SlIn.h inX | exact qt_max rfl rfl | exact qt_min rfl rfl) ?_))); simp only [List.set_cons_succ, List.set_cons_zero, vOf_true, vOf_false, List.drop_succ_cons, List.drop_zero, List.take_succ_cons, List.take_zero, putD, Int.toNat_zero, Int.reduceToNat, Nat.mul_one, Nat.zero_add, Nat.add_zero, Nat.reduceMul, Nat.reduceAdd, Nat.zero_mul])
                   | (with_reducible refine Sl.gate rfl ?_; (first | go_skip | go_guarded | go_step))
                   | ((first | (with_reducible refine Sl.k_store ?_; (first
                          | refine s_stR hst rfl BoxIn.h evX asX inX rfl rfl ?_
                          | refine s_store hst rfl _ BoxIn.h inX evX rfl lenOk oneOk (by simp) ?_
                          | refine s_st1 hst rfl BoxIn.h evX asX inX (by simp) ?_
                          | refine s_stB hst evX asX SlIn.h inX evX omX ?_
                          | refine s_stI hst evX asX SlIn.h inX evX omX ?_
                          | refine s_st2 hst evX asX SlIn.h inX evX omX ?_); clear hst; intro w hst) | (refine s_box hst evX rfl ?_; clear hst; intro bx w hst) | (refine s_alloc hst inX ?_; clear hst; intro bk w hst)); (try simp only [List.set_cons_succ, List.set_cons_zero, vOf_true, vOf_false, List.drop_succ_cons, List.drop_zero, List.take_succ_cons, List.take_zero, putD, Int.toNat_zero, Int.reduceToNat, Nat.mul_one, Nat.zero_add, Nat.add_zero, Nat.reduceMul, Nat.reduceAdd, Nat.zero_mul]); (try simp only [List.set_cons_succ, List.set_cons_zero, List.drop_succ_cons, List.drop_zero, List.take_succ_cons, List.take_zero, List.nil_append, List.cons_append, List.append_nil, Value.cells, List.eraseIdx_cons_zero, List.eraseIdx_cons_succ, Nat.zero_add, Nat.add_zero, List.flatten_cons, List.flatten_nil, List.map_cons, List.map_nil] at hst)))
                have c := IH.out _ _ _ _ _ _ hI hI2 h1i (kids_fits (hfit.enter _ _ _) i) (Nat.lt_of_le_of_lt (kids_left (Nat.le_refl _) i) hle) (mv_in [_, _, _] hst)
                refine s_callv c rfl (by infer_instance) rfl rfl ?_
                clear hst c; rintro v w ⟨rfl, hst⟩
                simp only [List.set_cons_succ, List.set_cons_zero, vOf_true, vOf_false, List.drop_succ_cons, List.drop_zero, List.take_succ_cons, List.take_zero, putD, Int.toNat_zero, Int.reduceToNat, Nat.mul_one, Nat.zero_add, Nat.add_zero, Nat.reduceMul, Nat.reduceAdd, Nat.zero_mul]
                repeat' (first
                   | go_skip
                   | (with_reducible refine Sl.k_guard ?_; (first | (refine Sl.guard_yes rfl ?_) | (refine Sl.guard_no rfl ?_) | (refine Sl.guard_cases rfl ?_ ?_ <;> intro hg <;> first | (exfalso; simp only [decide_eq_true_eq, decide_eq_false_iff_not, Bool.not_false, Bool.not_true, beq_iff_eq, beq_eq_false_iff_ne, ne_eq] at hg; omega) | (simp only [hg, Bool.not_true, Bool.not_false]))) <;> (try simp only [List.set_cons_succ, List.set_cons_zero, vOf_true, vOf_false, List.drop_succ_cons, List.drop_zero, List.take_succ_cons, List.take_zero, putD, Int.toNat_zero, Int.reduceToNat, Nat.mul_one, Nat.zero_add, Nat.add_zero, Nat.reduceMul, Nat.reduceAdd, Nat.zero_mul]))
                   | ((fail_if_success (go_big_may)); (first | go_skip | go_guarded | go_step))
                   | ((first
                        | (with_reducible refine Sl.k_load ?_; (first
                          | refine s_qt hst (qt_load rfl _ BoxIn.h inX rfl rfl) ?_
                          | (refine s_ex hst (qt_ldp_int evX asX inX) ?_; rintro v ⟨rfl, hI⟩)
                          | refine s_qt hst (by first | exact qt_ldp_u8 evX asX inX | exact qt_ldp_bool evX asX inX) ?_
                          | (refine s_ex hst (qt_ldp_str evX asX inX) ?_; rintro v ⟨rfl, hs⟩)
                          | (refine s_ex hst (qt_ldp_list evX asX inX) ?_; rintro v ⟨hvl, hv1⟩)
                          | (refine s_ex hst (qt_ldp evX asX inX) ?_; rintro v ⟨cl, rfl, hcl⟩)
                          | refine s_qt hst (by first | exact qt_ldB evX asX SlIn.h inX omX | exact qt_ldI evX asX SlIn.h inX omX | exact qt_ld2 evX asX SlIn.h inX omX | exact qt_load_own evX asX SlIn.h inX rfl (by simp; omega) | exact qt_load rfl _ asX inX rfl rfl) ?_))
                        | (with_reducible refine Sl.k_field ?_; (first
                          | refine s_qt hst (qt_field rfl inX) ?_
                          | (refine s_ex hst (qt_fieldp evX asX inX inX rfl) ?_; rintro v hp; (try simp only [Int.toNat_natCast, Int.toNat_natCast_add_one, Int.reduceToNat] at hp))
                          | (refine s_ex hst (qt_field_own evX asX inX) ?_; rintro v hp; (try simp only [Int.toNat_natCast, Int.toNat_natCast_add_one, Int.reduceToNat] at hp))))
                        | (with_reducible refine Sl.k_index ?_; (first
                          | refine s_qt hst (qt_indexA rfl rfl inX inX omX omX) ?_
                          | (refine s_ex hst (qt_indexP0 evX asX rfl inX inX) ?_; rintro v hp; (try simp only [Int.toNat_natCast, Int.toNat_natCast_add_one, Int.reduceToNat] at hp))
                          | (refine s_ex hst (qt_indexP1 evX asX rfl inX inX) ?_; rintro v hp; (try simp only [Int.toNat_natCast, Int.toNat_natCast_add_one, Int.reduceToNat] at hp))
                          | (refine s_ex hst (qt_index evX asX rfl inX inX omX omX) ?_; rintro v hp; (try simp only [Int.toNat_natCast, Int.toNat_natCast_add_one, Int.reduceToNat] at hp))
                          | (refine s_ex hst (qt_indexAp evX asX rfl inX inX rfl omX omX) ?_; rintro v hp; (try simp only [Int.toNat_natCast, Int.toNat_natCast_add_one, Int.reduceToNat] at hp))
                          | (refine s_ex hst (qt_index_own hst evX SlIn.h rfl inX inX omX omX) ?_; rintro v hp; (try simp only [Int.toNat_natCast, Int.toNat_natCast_add_one, Int.reduceToNat] at hp))))
                        | (with_reducible refine Sl.k_call ?_; (first
                          | refine s_qt hst (by first | exact qt_len evX asX inX | exact qt_len_own evX SlIn.h inX | exact qt_max rfl rfl | exact qt_min rfl rfl) ?_))); simp only [List.set_cons_succ, List.set_cons_zero, vOf_true, vOf_false, List.drop_succ_cons, List.drop_zero, List.take_succ_cons, List.take_zero, putD, Int.toNat_zero, Int.reduceToNat, Nat.mul_one, Nat.zero_add, Nat.add_zero, Nat.reduceMul, Nat.reduceAdd, Nat.zero_mul])
                   | (with_reducible refine Sl.gate rfl ?_; (first | go_skip | go_guarded | go_step))
                   | ((first | (with_reducible refine Sl.k_store ?_; (first
                          | refine s_stR hst rfl BoxIn.h evX asX inX rfl rfl ?_
                          | refine s_store hst rfl _ BoxIn.h inX evX rfl lenOk oneOk (by simp) ?_
                          | refine s_st1 hst rfl BoxIn.h evX asX inX (by simp) ?_
                          | refine s_stB hst evX asX SlIn.h inX evX omX ?_
                          | refine s_stI hst evX asX SlIn.h inX evX omX ?_
                          | refine s_st2 hst evX asX SlIn.h inX evX omX ?_); clear hst; intro w hst) | (refine s_box hst evX rfl ?_; clear hst; intro bx w hst) | (refine s_alloc hst inX ?_; clear hst; intro bk w hst)); (try simp only [List.set_cons_succ, List.set_cons_zero, vOf_true, vOf_false, List.drop_succ_cons, List.drop_zero, List.take_succ_cons, List.take_zero, putD, Int.toNat_zero, Int.reduceToNat, Nat.mul_one, Nat.zero_add, Nat.add_zero, Nat.reduceMul, Nat.reduceAdd, Nat.zero_mul]); (try simp only [List.set_cons_succ, List.set_cons_zero, List.drop_succ_cons, List.drop_zero, List.take_succ_cons, List.take_zero, List.nil_append, List.cons_append, List.append_nil, Value.cells, List.eraseIdx_cons_zero, List.eraseIdx_cons_succ, Nat.zero_add, Nat.add_zero, List.flatten_cons, List.flatten_nil, List.map_cons, List.map_nil] at hst)))
                go_roundw
                case rel =>
                  refine ⟨i + 1, by omega, by go_num, ?_⟩
                  rw [kids_succ, hin, getD_at hlt]
                  exact (mv_out [_, _, _] hst).drop
                case measure => simp [intOf]; omega
              · have hin : inner (isPoint nd s) nd.2.1 (a, b) i = (nd.2.1, 2) := by rw [hip]; subst hi2; rfl
                repeat' (first
                   | go_skip
                   | (with_reducible refine Sl.k_guard ?_; (first | (refine Sl.guard_yes rfl ?_) | (refine Sl.guard_no rfl ?_) | (refine Sl.guard_cases rfl ?_ ?_ <;> intro hg <;> first | (exfalso; simp only [decide_eq_true_eq, decide_eq_false_iff_not, Bool.not_false, Bool.not_true, beq_iff_eq, beq_eq_false_iff_ne, ne_eq] at hg; omega) | (simp only [hg, Bool.not_true, Bool.not_false]))) <;> (try simp only [List.set_cons_succ, List.set_cons_zero, vOf_true, vOf_false, List.drop_succ_cons, List.drop_zero, List.take_succ_cons, List.take_zero, putD, Int.toNat_zero, Int.reduceToNat, Nat.mul_one, Nat.zero_add, Nat.add_zero, Nat.reduceMul, Nat.reduceAdd, Nat.zero_mul]))
                   | ((fail_if_success (go_big_may)); (first | go_skip | go_guarded | go_step))
                   | ((first
                        | (with_reducible refine Sl.k_load ?_; (first
                          | refine s_qt hst (qt_load rfl _ BoxIn.h inX rfl rfl) ?_
                          | (refine s_ex hst (qt_ldp_int evX asX inX) ?_; rintro v ⟨rfl, hI⟩)
                          | refine s_qt hst (by first | exact qt_ldp_u8 evX asX inX | exact qt_ldp_bool evX asX inX) ?_
                          | (refine s_ex hst (qt_ldp_str evX asX inX) ?_; rintro v ⟨rfl, hs⟩)
                          | (refine s_ex hst (qt_ldp_list evX asX inX) ?_; rintro v ⟨hvl, hv1⟩)
                          | (refine s_ex hst (qt_ldp evX asX inX) ?_; rintro v ⟨cl, rfl, hcl⟩)
                          | refine s_qt hst (by first | exact qt_ldB evX asX SlIn.h inX omX | exact qt_ldI evX asX SlIn.h inX omX | exact qt_ld2 evX asX SlIn.h inX omX | exact qt_load_own evX asX SlIn.h inX rfl (by simp; omega) | exact qt_load rfl _ asX inX rfl rfl) ?_))
                        | (with_reducible refine Sl.k_field ?_; (first
                          | refine s_qt hst (qt_field rfl inX) ?_
                          | (refine s_ex hst (qt_fieldp evX asX inX inX rfl) ?_; rintro v hp; (try simp only [Int.toNat_natCast, Int.toNat_natCast_add_one, Int.reduceToNat] at hp))
                          | (refine s_ex hst (qt_field_own evX asX inX) ?_; rintro v hp; (try simp only [Int.toNat_natCast, Int.toNat_natCast_add_one, Int.reduceToNat] at hp))))
                        | (with_reducible refine Sl.k_index ?_; (first
                          | refine s_qt hst (qt_indexA rfl rfl inX inX omX omX) ?_
                          | (refine s_ex hst (qt_indexP0 evX asX rfl inX inX) ?_; rintro v hp; (try simp only [Int.toNat_natCast, Int.toNat_natCast_add_one, Int.reduceToNat] at hp))
                          | (refine s_ex hst (qt_indexP1 evX asX rfl inX inX) ?_; rintro v hp; (try simp only [Int.toNat_natCast, Int.toNat_natCast_add_one, Int.reduceToNat] at hp))
                          | (refine s_ex hst (qt_index evX asX rfl inX inX omX omX) ?_; rintro v hp; (try simp only [Int.toNat_natCast, Int.toNat_natCast_add_one, Int.reduceToNat] at hp))
                          | (refine s_ex hst (qt_indexAp evX asX rfl inX inX rfl omX omX) ?_; rintro v hp; (try simp only [Int.toNat_natCast, Int.toNat_natCast_add_one, Int.reduceToNat] at hp))
                          | (refine s_ex hst (qt_index_own hst evX SlIn.h rfl inX inX omX omX) ?_; rintro v hp; (try simp only [Int.toNat_natCast, Int.toNat_natCast_add_one, Int.reduceToNat] at hp))))
                        | (with_reducible refine Sl.k_call ?_; (first
                          | refine s_qt hst (by first | exact qt_len evX asX inX | exact qt_len_own evX SlIn.h inX | exact qt_max rfl rfl | exact qt_min rfl rfl) ?_))); simp only [List.set_cons_succ, List.set_cons_zero, vOf_true, vOf_false, List.drop_succ_cons, List.drop_zero, List.take_succ_cons, List.take_zero, putD, Int.toNat_zero, Int.reduceToNat, Nat.mul_one, Nat.zero_add, Nat.add_zero, Nat.reduceMul, Nat.reduceAdd, Nat.zero_mul])
                   | (with_reducible refine Sl.gate rfl ?_; (first | go_skip | go_guarded | go_step))
                   | ((first | (with_reducible refine Sl.k_store ?_; (first
                          | refine s_stR hst rfl BoxIn.h evX asX inX rfl rfl ?_
                          | refine s_store hst rfl _ BoxIn.h inX evX rfl lenOk oneOk (by simp) ?_
                          | refine s_st1 hst rfl BoxIn.h evX asX inX (by simp) ?_
                          | refine s_stB hst evX asX SlIn.h inX evX omX ?_
                          | refine s_stI hst evX asX SlIn.h inX evX omX ?_
                          | refine s_st2 hst evX asX SlIn.h inX evX omX ?_); clear hst; intro w hst) | (refine s_box hst evX rfl ?_; clear hst; intro bx w hst) | (refine s_alloc hst inX ?_; clear hst; intro bk w hst)); (try simp only [List.set_cons_succ, List.set_cons_zero, vOf_true, vOf_false, List.drop_succ_cons, List.drop_zero, List.take_succ_cons, List.take_zero, putD, Int.toNat_zero, Int.reduceToNat, Nat.mul_one, Nat.zero_add, Nat.add_zero, Nat.reduceMul, Nat.reduceAdd, Nat.zero_mul]); (try simp only [List.set_cons_succ, List.set_cons_zero, List.drop_succ_cons, List.drop_zero, List.take_succ_cons, List.take_zero, List.nil_append, List.cons_append, List.append_nil, Value.cells, List.eraseIdx_cons_zero, List.eraseIdx_cons_succ, Nat.zero_add, Nat.add_zero, List.flatten_cons, List.flatten_nil, List.map_cons, List.map_nil] at hst)))
                have c := IH.out _ _ _ _ _ _ hI hI2 h2i (kids_fits (hfit.enter _ _ _) i) (Nat.lt_of_le_of_lt (kids_left (Nat.le_refl _) i) hle) (mv_in [_, _, _] hst)
                refine s_callv c rfl (by infer_instance) rfl rfl ?_
                clear hst c; rintro v w ⟨rfl, hst⟩
                simp only [List.set_cons_succ, List.set_cons_zero, vOf_true, vOf_false, List.drop_succ_cons, List.drop_zero, List.take_succ_cons, List.take_zero, putD, Int.toNat_zero, Int.reduceToNat, Nat.mul_one, Nat.zero_add, Nat.add_zero, Nat.reduceMul, Nat.reduceAdd, Nat.zero_mul]
                repeat' (first
                   | go_skip
                   | (with_reducible refine Sl.k_guard ?_; (first | (refine Sl.guard_yes rfl ?_) | (refine Sl.guard_no rfl ?_) | (refine Sl.guard_cases rfl ?_ ?_ <;> intro hg <;> first | (exfalso; simp only [decide_eq_true_eq, decide_eq_false_iff_not, Bool.not_false, Bool.not_true, beq_iff_eq, beq_eq_false_iff_ne, ne_eq] at hg; omega) | (simp only [hg, Bool.not_true, Bool.not_false]))) <;> (try simp only [List.set_cons_succ, List.set_cons_zero, vOf_true, vOf_false, List.drop_succ_cons, List.drop_zero, List.take_succ_cons, List.take_zero, putD, Int.toNat_zero, Int.reduceToNat, Nat.mul_one, Nat.zero_add, Nat.add_zero, Nat.reduceMul, Nat.reduceAdd, Nat.zero_mul]))
                   | ((fail_if_success (go_big_may)); (first | go_skip | go_guarded | go_step))
                   | ((first
                        | (with_reducible refine Sl.k_load ?_; (first
                          | refine s_qt hst (qt_load rfl _ BoxIn.h inX rfl rfl) ?_
                          | (refine s_ex hst (qt_ldp_int evX asX inX) ?_; rintro v ⟨rfl, hI⟩)
                          | refine s_qt hst (by first | exact qt_ldp_u8 evX asX inX | exact qt_ldp_bool evX asX inX) ?_
                          | (refine s_ex hst (qt_ldp_str evX asX inX) ?_; rintro v ⟨rfl, hs⟩)
                          | (refine s_ex hst (qt_ldp_list evX asX inX) ?_; rintro v ⟨hvl, hv1⟩)
                          | (refine s_ex hst (qt_ldp evX asX inX) ?_; rintro v ⟨cl, rfl, hcl⟩)
                          | refine s_qt hst (by first | exact qt_ldB evX asX SlIn.h inX omX | exact qt_ldI evX asX SlIn.h inX omX | exact qt_ld2 evX asX SlIn.h inX omX | exact qt_load_own evX asX SlIn.h inX rfl (by simp; omega) | exact qt_load rfl _ asX inX rfl rfl) ?_))
                        | (with_reducible refine Sl.k_field ?_; (first
                          | refine s_qt hst (qt_field rfl inX) ?_
                          | (refine s_ex hst (qt_fieldp evX asX inX inX rfl) ?_; rintro v hp; (try simp only [Int.toNat_natCast, Int.toNat_natCast_add_one, Int.reduceToNat] at hp))
                          | (refine s_ex hst (qt_field_own evX asX inX) ?_; rintro v hp; (try simp only [Int.toNat_natCast, Int.toNat_natCast_add_one, Int.reduceToNat] at hp))))
                        | (with_reducible refine Sl.k_index ?_; (first
                          | refine s_qt hst (qt_indexA rfl rfl inX inX omX omX) ?_
                          | (refine s_ex hst (qt_indexP0 evX asX rfl inX inX) ?_; rintro v hp; (try simp only [Int.toNat_natCast, Int.toNat_natCast_add_one, Int.reduceToNat] at hp))
                          | (refine s_ex hst (qt_indexP1 evX asX rfl inX inX) ?_; rintro v hp; (try simp only [Int.toNat_natCast, Int.toNat_natCast_add_one, Int.reduceToNat] at hp))
                          | (refine s_ex hst (qt_index evX asX rfl inX inX omX omX) ?_; rintro v hp; (try simp only [Int.toNat_natCast, Int.toNat_natCast_add_one, Int.reduceToNat] at hp))
                          | (refine s_ex hst (qt_indexAp evX asX rfl inX inX rfl omX omX) ?_; rintro v hp; (try simp only [Int.toNat_natCast, Int.toNat_natCast_add_one, Int.reduceToNat] at hp))
                          | (refine s_ex hst (qt_index_own hst evX SlIn.h rfl inX inX omX omX) ?_; rintro v hp; (try simp only [Int.toNat_natCast, Int.toNat_natCast_add_one, Int.reduceToNat] at hp))))
                        | (with_reducible refine Sl.k_call ?_; (first
                          | refine s_qt hst (by first | exact qt_len evX asX inX | exact qt_len_own evX SlIn.h inX | exact qt_max rfl rfl | exact qt_min rfl rfl) ?_))); simp only [List.set_cons_succ, List.set_cons_zero, vOf_true, vOf_false, List.drop_succ_cons, List.drop_zero, List.take_succ_cons, List.take_zero, putD, Int.toNat_zero, Int.reduceToNat, Nat.mul_one, Nat.zero_add, Nat.add_zero, Nat.reduceMul, Nat.reduceAdd, Nat.zero_mul])
                   | (with_reducible refine Sl.gate rfl ?_; (first | go_skip | go_guarded | go_step))
                   | ((first | (with_reducible refine Sl.k_store ?_; (first
                          | refine s_stR hst rfl BoxIn.h evX asX inX rfl rfl ?_
                          | refine s_store hst rfl _ BoxIn.h inX evX rfl lenOk oneOk (by simp) ?_
                          | refine s_st1 hst rfl BoxIn.h evX asX inX (by simp) ?_
                          | refine s_stB hst evX asX SlIn.h inX evX omX ?_
                          | refine s_stI hst evX asX SlIn.h inX evX omX ?_
                          | refine s_st2 hst evX asX SlIn.h inX evX omX ?_); clear hst; intro w hst) | (refine s_box hst evX rfl ?_; clear hst; intro bx w hst) | (refine s_alloc hst inX ?_; clear hst; intro bk w hst)); (try simp only [List.set_cons_succ, List.set_cons_zero, vOf_true, vOf_false, List.drop_succ_cons, List.drop_zero, List.take_succ_cons, List.take_zero, putD, Int.toNat_zero, Int.reduceToNat, Nat.mul_one, Nat.zero_add, Nat.add_zero, Nat.reduceMul, Nat.reduceAdd, Nat.zero_mul]); (try simp only [List.set_cons_succ, List.set_cons_zero, List.drop_succ_cons, List.drop_zero, List.take_succ_cons, List.take_zero, List.nil_append, List.cons_append, List.append_nil, Value.cells, List.eraseIdx_cons_zero, List.eraseIdx_cons_succ, Nat.zero_add, Nat.add_zero, List.flatten_cons, List.flatten_nil, List.map_cons, List.map_nil] at hst)))
                go_roundw
                case rel =>
                  refine ⟨i + 1, by omega, by go_num, ?_⟩
                  rw [kids_succ, hin, getD_at hlt]
                  exact (mv_out [_, _, _] hst).drop
                case measure => simp [intOf]; omega
              · have hin : inner (isPoint nd s) nd.2.1 (a, b) i = (a, b) := by rw [hip]; simp [inner, hi1, hi2]
                repeat' (first
                   | go_skip
                   | (with_reducible refine Sl.k_guard ?_; (first | (refine Sl.guard_yes rfl ?_) | (refine Sl.guard_no rfl ?_) | (refine Sl.guard_cases rfl ?_ ?_ <;> intro hg <;> first | (exfalso; simp only [decide_eq_true_eq, decide_eq_false_iff_not, Bool.not_false, Bool.not_true, beq_iff_eq, beq_eq_false_iff_ne, ne_eq] at hg; omega) | (simp only [hg, Bool.not_true, Bool.not_false]))) <;> (try simp only [List.set_cons_succ, List.set_cons_zero, vOf_true, vOf_false, List.drop_succ_cons, List.drop_zero, List.take_succ_cons, List.take_zero, putD, Int.toNat_zero, Int.reduceToNat, Nat.mul_one, Nat.zero_add, Nat.add_zero, Nat.reduceMul, Nat.reduceAdd, Nat.zero_mul]))
                   | ((fail_if_success (go_big_may)); (first | go_skip | go_guarded | go_step))
                   | ((first
                        | (with_reducible refine Sl.k_load ?_; (first
                          | refine s_qt hst (qt_load rfl _ BoxIn.h inX rfl rfl) ?_
                          | (refine s_ex hst (qt_ldp_int evX asX inX) ?_; rintro v ⟨rfl, hI⟩)
                          | refine s_qt hst (by first | exact qt_ldp_u8 evX asX inX | exact qt_ldp_bool evX asX inX) ?_
                          | (refine s_ex hst (qt_ldp_str evX asX inX) ?_; rintro v ⟨rfl, hs⟩)
                          | (refine s_ex hst (qt_ldp_list evX asX inX) ?_; rintro v ⟨hvl, hv1⟩)
                          | (refine s_ex hst (qt_ldp evX asX inX) ?_; rintro v ⟨cl, rfl, hcl⟩)
                          | refine s_qt hst (by first | exact qt_ldB evX asX SlIn.h inX omX | exact qt_ldI evX asX SlIn.h inX omX | exact qt_ld2 evX asX SlIn.h inX omX | exact qt_load_own evX asX SlIn.h inX rfl (by simp; omega) | exact qt_load rfl _ asX inX rfl rfl) ?_))
                        | (with_reducible refine Sl.k_field ?_; (first
                          | refine s_qt hst (qt_field rfl inX) ?_
                          | (refine s_ex hst (qt_fieldp evX asX inX inX rfl) ?_; rintro v hp; (try simp only [Int.toNat_natCast, Int.toNat_natCast_add_one, Int.reduceToNat] at hp))
                          | (refine s_ex hst (qt_field_own evX asX inX) ?_; rintro v hp; (try simp only [Int.toNat_natCast, Int.toNat_natCast_add_one, Int.reduceToNat] at hp))))
                        | (with_reducible refine Sl.k_index ?_; (first
                          | refine s_qt hst (qt_indexA rfl rfl inX inX omX omX) ?_
                          | (refine s_ex hst (qt_indexP0 evX asX rfl inX inX) ?_; rintro v hp; (try simp only [Int.toNat_natCast, Int.toNat_natCast_add_one, Int.reduceToNat] at hp))
                          | (refine s_ex hst (qt_indexP1 evX asX rfl inX inX) ?_; rintro v hp; (try simp only [Int.toNat_natCast, Int.toNat_natCast_add_one, Int.reduceToNat] at hp))
                          | (refine s_ex hst (qt_index evX asX rfl inX inX omX omX) ?_; rintro v hp; (try simp only [Int.toNat_natCast, Int.toNat_natCast_add_one, Int.reduceToNat] at hp))
                          | (refine s_ex hst (qt_indexAp evX asX rfl inX inX rfl omX omX) ?_; rintro v hp; (try simp only [Int.toNat_natCast, Int.toNat_natCast_add_one, Int.reduceToNat] at hp))
                          | (refine s_ex hst (qt_index_own hst evX SlIn.h rfl inX inX omX omX) ?_; rintro v hp; (try simp only [Int.toNat_natCast, Int.toNat_natCast_add_one, Int.reduceToNat] at hp))))
                        | (with_reducible refine Sl.k_call ?_; (first
                          | refine s_qt hst (by first | exact qt_len evX asX inX | exact qt_len_own evX SlIn.h inX | exact qt_max rfl rfl | exact qt_min rfl rfl) ?_))); simp only [List.set_cons_succ, List.set_cons_zero, vOf_true, vOf_false, List.drop_succ_cons, List.drop_zero, List.take_succ_cons, List.take_zero, putD, Int.toNat_zero, Int.reduceToNat, Nat.mul_one, Nat.zero_add, Nat.add_zero, Nat.reduceMul, Nat.reduceAdd, Nat.zero_mul])
                   | (with_reducible refine Sl.gate rfl ?_; (first | go_skip | go_guarded | go_step))
                   | ((first | (with_reducible refine Sl.k_store ?_; (first
                          | refine s_stR hst rfl BoxIn.h evX asX inX rfl rfl ?_
                          | refine s_store hst rfl _ BoxIn.h inX evX rfl lenOk oneOk (by simp) ?_
                          | refine s_st1 hst rfl BoxIn.h evX asX inX (by simp) ?_
                          | refine s_stB hst evX asX SlIn.h inX evX omX ?_
                          | refine s_stI hst evX asX SlIn.h inX evX omX ?_
                          | refine s_st2 hst evX asX SlIn.h inX evX omX ?_); clear hst; intro w hst) | (refine s_box hst evX rfl ?_; clear hst; intro bx w hst) | (refine s_alloc hst inX ?_; clear hst; intro bk w hst)); (try simp only [List.set_cons_succ, List.set_cons_zero, vOf_true, vOf_false, List.drop_succ_cons, List.drop_zero, List.take_succ_cons, List.take_zero, putD, Int.toNat_zero, Int.reduceToNat, Nat.mul_one, Nat.zero_add, Nat.add_zero, Nat.reduceMul, Nat.reduceAdd, Nat.zero_mul]); (try simp only [List.set_cons_succ, List.set_cons_zero, List.drop_succ_cons, List.drop_zero, List.take_succ_cons, List.take_zero, List.nil_append, List.cons_append, List.append_nil, Value.cells, List.eraseIdx_cons_zero, List.eraseIdx_cons_succ, Nat.zero_add, Nat.add_zero, List.flatten_cons, List.flatten_nil, List.map_cons, List.map_nil] at hst)))
                have c := IH.out _ _ _ _ _ _ hI ha hb (kids_fits (hfit.enter _ _ _) i) (Nat.lt_of_le_of_lt (kids_left (Nat.le_refl _) i) hle) (mv_in [_, _, _] hst)
                refine s_callv c rfl (by infer_instance) rfl rfl ?_
                clear hst c; rintro v w ⟨rfl, hst⟩
                simp only [List.set_cons_succ, List.set_cons_zero, vOf_true, vOf_false, List.drop_succ_cons, List.drop_zero, List.take_succ_cons, List.take_zero, putD, Int.toNat_zero, Int.reduceToNat, Nat.mul_one, Nat.zero_add, Nat.add_zero, Nat.reduceMul, Nat.reduceAdd, Nat.zero_mul]
                repeat' (first
                   | go_skip
                   | (with_reducible refine Sl.k_guard ?_; (first | (refine Sl.guard_yes rfl ?_) | (refine Sl.guard_no rfl ?_) | (refine Sl.guard_cases rfl ?_ ?_ <;> intro hg <;> first | (exfalso; simp only [decide_eq_true_eq, decide_eq_false_iff_not, Bool.not_false, Bool.not_true, beq_iff_eq, beq_eq_false_iff_ne, ne_eq] at hg; omega) | (simp only [hg, Bool.not_true, Bool.not_false]))) <;> (try simp only [List.set_cons_succ, List.set_cons_zero, vOf_true, vOf_false, List.drop_succ_cons, List.drop_zero, List.take_succ_cons, List.take_zero, putD, Int.toNat_zero, Int.reduceToNat, Nat.mul_one, Nat.zero_add, Nat.add_zero, Nat.reduceMul, Nat.reduceAdd, Nat.zero_mul]))
                   | ((fail_if_success (go_big_may)); (first | go_skip | go_guarded | go_step))
                   | ((first
                        | (with_reducible refine Sl.k_load ?_; (first
                          | refine s_qt hst (qt_load rfl _ BoxIn.h inX rfl rfl) ?_
                          | (refine s_ex hst (qt_ldp_int evX asX inX) ?_; rintro v ⟨rfl, hI⟩)
                          | refine s_qt hst (by first | exact qt_ldp_u8 evX asX inX | exact qt_ldp_bool evX asX inX) ?_
                          | (refine s_ex hst (qt_ldp_str evX asX inX) ?_; rintro v ⟨rfl, hs⟩)
                          | (refine s_ex hst (qt_ldp_list evX asX inX) ?_; rintro v ⟨hvl, hv1⟩)
                          | (refine s_ex hst (qt_ldp evX asX inX) ?_; rintro v ⟨cl, rfl, hcl⟩)
                          | refine s_qt hst (by first | exact qt_ldB evX asX SlIn.h inX omX | exact qt_ldI evX asX SlIn.h inX omX | exact qt_ld2 evX asX SlIn.h inX omX | exact qt_load_own evX asX SlIn.h inX rfl (by simp; omega) | exact qt_load rfl _ asX inX rfl rfl) ?_))
                        | (with_reducible refine Sl.k_field ?_; (first
                          | refine s_qt hst (qt_field rfl inX) ?_
                          | (refine s_ex hst (qt_fieldp evX asX inX inX rfl) ?_; rintro v hp; (try simp only [Int.toNat_natCast, Int.toNat_natCast_add_one, Int.reduceToNat] at hp))
                          | (refine s_ex hst (qt_field_own evX asX inX) ?_; rintro v hp; (try simp only [Int.toNat_natCast, Int.toNat_natCast_add_one, Int.reduceToNat] at hp))))
                        | (with_reducible refine Sl.k_index ?_; (first
                          | refine s_qt hst (qt_indexA rfl rfl inX inX omX omX) ?_
                          | (refine s_ex hst (qt_indexP0 evX asX rfl inX inX) ?_; rintro v hp; (try simp only [Int.toNat_natCast, Int.toNat_natCast_add_one, Int.reduceToNat] at hp))
                          | (refine s_ex hst (qt_indexP1 evX asX rfl inX inX) ?_; rintro v hp; (try simp only [Int.toNat_natCast, Int.toNat_natCast_add_one, Int.reduceToNat] at hp))
                          | (refine s_ex hst (qt_index evX asX rfl inX inX omX omX) ?_; rintro v hp; (try simp only [Int.toNat_natCast, Int.toNat_natCast_add_one, Int.reduceToNat] at hp))
                          | (refine s_ex hst (qt_indexAp evX asX rfl inX inX rfl omX omX) ?_; rintro v hp; (try simp only [Int.toNat_natCast, Int.toNat_natCast_add_one, Int.reduceToNat] at hp))
                          | (refine s_ex hst (qt_index_own hst evX SlIn.h rfl inX inX omX omX) ?_; rintro v hp; (try simp only [Int.toNat_natCast, Int.toNat_natCast_add_one, Int.reduceToNat] at hp))))
                        | (with_reducible refine Sl.k_call ?_; (first
                          | refine s_qt hst (by first | exact qt_len evX asX inX | exact qt_len_own evX SlIn.h inX | exact qt_max rfl rfl | exact qt_min rfl rfl) ?_))); simp only [List.set_cons_succ, List.set_cons_zero, vOf_true, vOf_false, List.drop_succ_cons, List.drop_zero, List.take_succ_cons, List.take_zero, putD, Int.toNat_zero, Int.reduceToNat, Nat.mul_one, Nat.zero_add, Nat.add_zero, Nat.reduceMul, Nat.reduceAdd, Nat.zero_mul])
                   | (with_reducible refine Sl.gate rfl ?_; (first | go_skip | go_guarded | go_step))
                   | ((first | (with_reducible refine Sl.k_store ?_; (first
                          | refine s_stR hst rfl BoxIn.h evX asX inX rfl rfl ?_
                          | refine s_store hst rfl _ BoxIn.h inX evX rfl lenOk oneOk (by simp) ?_
                          | refine s_st1 hst rfl BoxIn.h evX asX inX (by simp) ?_
                          | refine s_stB hst evX asX SlIn.h inX evX omX ?_
                          | refine s_stI hst evX asX SlIn.h inX evX omX ?_
                          | refine s_st2 hst evX asX SlIn.h inX evX omX ?_); clear hst; intro w hst) | (refine s_box hst evX rfl ?_; clear hst; intro bx w hst) | (refine s_alloc hst inX ?_; clear hst; intro bk w hst)); (try simp only [List.set_cons_succ, List.set_cons_zero, vOf_true, vOf_false, List.drop_succ_cons, List.drop_zero, List.take_succ_cons, List.take_zero, putD, Int.toNat_zero, Int.reduceToNat, Nat.mul_one, Nat.zero_add, Nat.add_zero, Nat.reduceMul, Nat.reduceAdd, Nat.zero_mul]); (try simp only [List.set_cons_succ, List.set_cons_zero, List.drop_succ_cons, List.drop_zero, List.take_succ_cons, List.take_zero, List.nil_append, List.cons_append, List.append_nil, Value.cells, List.eraseIdx_cons_zero, List.eraseIdx_cons_succ, Nat.zero_add, Nat.add_zero, List.flatten_cons, List.flatten_nil, List.map_cons, List.map_nil] at hst)))
                go_roundw
                case rel =>
                  refine ⟨i + 1, by omega, by go_num, ?_⟩
                  rw [kids_succ, hin, getD_at hlt]
                  exact (mv_out [_, _, _] hst).drop
                case measure => simp [intOf]; omega
            · repeat' (first
                 | go_skip
                 | (with_reducible refine Sl.k_guard ?_; (first | (refine Sl.guard_yes rfl ?_) | (refine Sl.guard_no rfl ?_) | (refine Sl.guard_cases rfl ?_ ?_ <;> intro hg <;> first | (exfalso; simp only [decide_eq_true_eq, decide_eq_false_iff_not, Bool.not_false, Bool.not_true, beq_iff_eq, beq_eq_false_iff_ne, ne_eq] at hg; omega) | (simp only [hg, Bool.not_true, Bool.not_false]))) <;> (try simp only [List.set_cons_succ, List.set_cons_zero, vOf_true, vOf_false, List.drop_succ_cons, List.drop_zero, List.take_succ_cons, List.take_zero, putD, Int.toNat_zero, Int.reduceToNat, Nat.mul_one, Nat.zero_add, Nat.add_zero, Nat.reduceMul, Nat.reduceAdd, Nat.zero_mul]))
                 | ((fail_if_success (go_big_may)); (first | go_skip | go_guarded | go_step))
                 | ((first
                      | (with_reducible refine Sl.k_load ?_; (first
                        | refine s_qt hst (qt_load rfl _ BoxIn.h inX rfl rfl) ?_
                        | (refine s_ex hst (qt_ldp_int evX asX inX) ?_; rintro v ⟨rfl, hI⟩)
                        | refine s_qt hst (by first | exact qt_ldp_u8 evX asX inX | exact qt_ldp_bool evX asX inX) ?_
                        | (refine s_ex hst (qt_ldp_str evX asX inX) ?_; rintro v ⟨rfl, hs⟩)
                        | (refine s_ex hst (qt_ldp_list evX asX inX) ?_; rintro v ⟨hvl, hv1⟩)
                        | (refine s_ex hst (qt_ldp evX asX inX) ?_; rintro v ⟨cl, rfl, hcl⟩)
                        | refine s_qt hst (by first | exact qt_ldB evX asX SlIn.h inX omX | exact qt_ldI evX asX SlIn.h inX omX | exact qt_ld2 evX asX SlIn.h inX omX | exact qt_load_own evX asX SlIn.h inX rfl (by simp; omega) | exact qt_load rfl _ asX inX rfl rfl) ?_))
                      | (with_reducible refine Sl.k_field ?_; (first
                        | refine s_qt hst (qt_field rfl inX) ?_
                        | (refine s_ex hst (qt_fieldp evX asX inX inX rfl) ?_; rintro v hp; (try simp only [Int.toNat_natCast, Int.toNat_natCast_add_one, Int.reduceToNat] at hp))
                        | (refine s_ex hst (qt_field_own evX asX inX) ?_; rintro v hp; (try simp only [Int.toNat_natCast, Int.toNat_natCast_add_one, Int.reduceToNat] at hp))))
                      | (with_reducible refine Sl.k_index ?_; (first
                        | refine s_qt hst (qt_indexA rfl rfl inX inX omX omX) ?_
                        | (refine s_ex hst (qt_indexP0 evX asX rfl inX inX) ?_; rintro v hp; (try simp only [Int.toNat_natCast, Int.toNat_natCast_add_one, Int.reduceToNat] at hp))
                        | (refine s_ex hst (qt_indexP1 evX asX rfl inX inX) ?_; rintro v hp; (try simp only [Int.toNat_natCast, Int.toNat_natCast_add_one, Int.reduceToNat] at hp))
                        | (refine s_ex hst (qt_index evX asX rfl inX inX omX omX) ?_; rintro v hp; (try simp only [Int.toNat_natCast, Int.toNat_natCast_add_one, Int.reduceToNat] at hp))
                        | (refine s_ex hst (qt_indexAp evX asX rfl inX inX rfl omX omX) ?_; rintro v hp; (try simp only [Int.toNat_natCast, Int.toNat_natCast_add_one, Int.reduceToNat] at hp))
                        | (refine s_ex hst (qt_index_own hst evX SlIn.h rfl inX inX omX omX) ?_; rintro v hp; (try simp only [Int.toNat_natCast, Int.toNat_natCast_add_one, Int.reduceToNat] at hp))))
                      | (with_reducible refine Sl.k_call ?_; (first
                        | refine s_qt hst (by first | exact qt_len evX asX inX | exact qt_len_own evX SlIn.h inX | exact qt_max rfl rfl | exact qt_min rfl rfl) ?_))); simp only [List.set_cons_succ, List.set_cons_zero, vOf_true, vOf_false, List.drop_succ_cons, List.drop_zero, List.take_succ_cons, List.take_zero, putD, Int.toNat_zero, Int.reduceToNat, Nat.mul_one, Nat.zero_add, Nat.add_zero, Nat.reduceMul, Nat.reduceAdd, Nat.zero_mul])
                 | (with_reducible refine Sl.gate rfl ?_; (first | go_skip | go_guarded | go_step))
                 | ((first | (with_reducible refine Sl.k_store ?_; (first
                        | refine s_stR hst rfl BoxIn.h evX asX inX rfl rfl ?_
                        | refine s_store hst rfl _ BoxIn.h inX evX rfl lenOk oneOk (by simp) ?_
                        | refine s_st1 hst rfl BoxIn.h evX asX inX (by simp) ?_
                        | refine s_stB hst evX asX SlIn.h inX evX omX ?_
                        | refine s_stI hst evX asX SlIn.h inX evX omX ?_
                        | refine s_st2 hst evX asX SlIn.h inX evX omX ?_); clear hst; intro w hst) | (refine s_box hst evX rfl ?_; clear hst; intro bx w hst) | (refine s_alloc hst inX ?_; clear hst; intro bk w hst)); (try simp only [List.set_cons_succ, List.set_cons_zero, vOf_true, vOf_false, List.drop_succ_cons, List.drop_zero, List.take_succ_cons, List.take_zero, putD, Int.toNat_zero, Int.reduceToNat, Nat.mul_one, Nat.zero_add, Nat.add_zero, Nat.reduceMul, Nat.reduceAdd, Nat.zero_mul]); (try simp only [List.set_cons_succ, List.set_cons_zero, List.drop_succ_cons, List.drop_zero, List.take_succ_cons, List.take_zero, List.nil_append, List.cons_append, List.append_nil, Value.cells, List.eraseIdx_cons_zero, List.eraseIdx_cons_succ, Nat.zero_add, Nat.add_zero, List.flatten_cons, List.flatten_nil, List.map_cons, List.map_nil] at hst)))
              go_end0
              refine ⟨_, rfl, rfl, ?_⟩
              rw [visit_some hg0, ← show i = nd.2.2.2.1.length by omega]
              exact hst.drop.drop
        | false =>
          clear hpt
          rw [hip] at hcut
          obtain ⟨rfl, hst⟩ := hcut
          unfold mv at hst
          have hent : Proofs.Ytajmfdnmckbclaa.enter k.toNat nd (a, b) s = ⟨s.seen.set k.toNat true, s.out, s.found⟩ := by unfold Proofs.Ytajmfdnmckbclaa.enter; rw [if_neg (by rw [hip]; simp)]
          repeat' (first
             | go_skip
             | (with_reducible refine Sl.k_guard ?_; (first | (refine Sl.guard_yes rfl ?_) | (refine Sl.guard_no rfl ?_) | (refine Sl.guard_cases rfl ?_ ?_ <;> intro hg <;> first | (exfalso; simp only [decide_eq_true_eq, decide_eq_false_iff_not, Bool.not_false, Bool.not_true, beq_iff_eq, beq_eq_false_iff_ne, ne_eq] at hg; omega) | (simp only [hg, Bool.not_true, Bool.not_false]))) <;> (try simp only [List.set_cons_succ, List.set_cons_zero, vOf_true, vOf_false, List.drop_succ_cons, List.drop_zero, List.take_succ_cons, List.take_zero, putD, Int.toNat_zero, Int.reduceToNat, Nat.mul_one, Nat.zero_add, Nat.add_zero, Nat.reduceMul, Nat.reduceAdd, Nat.zero_mul]))
             | ((fail_if_success (go_big_may)); (first | go_skip | go_guarded | go_step))
             | ((first
                  | (with_reducible refine Sl.k_load ?_; (first
                    | refine s_qt hst (qt_load rfl _ BoxIn.h inX rfl rfl) ?_
                    | (refine s_ex hst (qt_ldp_int evX asX inX) ?_; rintro v ⟨rfl, hI⟩)
                    | refine s_qt hst (by first | exact qt_ldp_u8 evX asX inX | exact qt_ldp_bool evX asX inX) ?_
                    | (refine s_ex hst (qt_ldp_str evX asX inX) ?_; rintro v ⟨rfl, hs⟩)
                    | (refine s_ex hst (qt_ldp_list evX asX inX) ?_; rintro v ⟨hvl, hv1⟩)
                    | (refine s_ex hst (qt_ldp evX asX inX) ?_; rintro v ⟨cl, rfl, hcl⟩)
                    | refine s_qt hst (by first | exact qt_ldB evX asX SlIn.h inX omX | exact qt_ldI evX asX SlIn.h inX omX | exact qt_ld2 evX asX SlIn.h inX omX | exact qt_load_own evX asX SlIn.h inX rfl (by simp; omega) | exact qt_load rfl _ asX inX rfl rfl) ?_))
                  | (with_reducible refine Sl.k_field ?_; (first
                    | refine s_qt hst (qt_field rfl inX) ?_
                    | (refine s_ex hst (qt_fieldp evX asX inX inX rfl) ?_; rintro v hp; (try simp only [Int.toNat_natCast, Int.toNat_natCast_add_one, Int.reduceToNat] at hp))
                    | (refine s_ex hst (qt_field_own evX asX inX) ?_; rintro v hp; (try simp only [Int.toNat_natCast, Int.toNat_natCast_add_one, Int.reduceToNat] at hp))))
                  | (with_reducible refine Sl.k_index ?_; (first
                    | refine s_qt hst (qt_indexA rfl rfl inX inX omX omX) ?_
                    | (refine s_ex hst (qt_indexP0 evX asX rfl inX inX) ?_; rintro v hp; (try simp only [Int.toNat_natCast, Int.toNat_natCast_add_one, Int.reduceToNat] at hp))
                    | (refine s_ex hst (qt_indexP1 evX asX rfl inX inX) ?_; rintro v hp; (try simp only [Int.toNat_natCast, Int.toNat_natCast_add_one, Int.reduceToNat] at hp))
                    | (refine s_ex hst (qt_index evX asX rfl inX inX omX omX) ?_; rintro v hp; (try simp only [Int.toNat_natCast, Int.toNat_natCast_add_one, Int.reduceToNat] at hp))
                    | (refine s_ex hst (qt_indexAp evX asX rfl inX inX rfl omX omX) ?_; rintro v hp; (try simp only [Int.toNat_natCast, Int.toNat_natCast_add_one, Int.reduceToNat] at hp))
                    | (refine s_ex hst (qt_index_own hst evX SlIn.h rfl inX inX omX omX) ?_; rintro v hp; (try simp only [Int.toNat_natCast, Int.toNat_natCast_add_one, Int.reduceToNat] at hp))))
                  | (with_reducible refine Sl.k_call ?_; (first
                    | refine s_qt hst (by first | exact qt_len evX asX inX | exact qt_len_own evX SlIn.h inX | exact qt_max rfl rfl | exact qt_min rfl rfl) ?_))); simp only [List.set_cons_succ, List.set_cons_zero, vOf_true, vOf_false, List.drop_succ_cons, List.drop_zero, List.take_succ_cons, List.take_zero, putD, Int.toNat_zero, Int.reduceToNat, Nat.mul_one, Nat.zero_add, Nat.add_zero, Nat.reduceMul, Nat.reduceAdd, Nat.zero_mul])
             | (with_reducible refine Sl.gate rfl ?_; (first | go_skip | go_guarded | go_step))
             | ((first | (with_reducible refine Sl.k_store ?_; (first
                    | refine s_stR hst rfl BoxIn.h evX asX inX rfl rfl ?_
                    | refine s_store hst rfl _ BoxIn.h inX evX rfl lenOk oneOk (by simp) ?_
                    | refine s_st1 hst rfl BoxIn.h evX asX inX (by simp) ?_
                    | refine s_stB hst evX asX SlIn.h inX evX omX ?_
                    | refine s_stI hst evX asX SlIn.h inX evX omX ?_
                    | refine s_st2 hst evX asX SlIn.h inX evX omX ?_); clear hst; intro w hst) | (refine s_box hst evX rfl ?_; clear hst; intro bx w hst) | (refine s_alloc hst inX ?_; clear hst; intro bk w hst)); (try simp only [List.set_cons_succ, List.set_cons_zero, vOf_true, vOf_false, List.drop_succ_cons, List.drop_zero, List.take_succ_cons, List.take_zero, putD, Int.toNat_zero, Int.reduceToNat, Nat.mul_one, Nat.zero_add, Nat.add_zero, Nat.reduceMul, Nat.reduceAdd, Nat.zero_mul]); (try simp only [List.set_cons_succ, List.set_cons_zero, List.drop_succ_cons, List.drop_zero, List.take_succ_cons, List.take_zero, List.nil_append, List.cons_append, List.append_nil, Value.cells, List.eraseIdx_cons_zero, List.eraseIdx_cons_succ, Nat.zero_add, Nat.add_zero, List.flatten_cons, List.flatten_nil, List.map_cons, List.map_nil] at hst)))

          go_loopw [73] (fun v wr => ∃ i : Nat, i ≤ nd.2.2.2.1.length ∧ v = .int .i64 i ∧
            St S (.box bk [.int .i64 nd.1, .int .i64 nd.2.1, .string ⟨nd.2.2.1.b.toArray⟩, vs] 41 :: .box bx [.int .i64 a, .int .i64 b] 30 ::
              mv bp bv bo bf bs [vi, vn, .int .i64 root, .int .i64 pts] vv vo vf (.func (.func 18) #[] #[.pointer (some ⟨bp, 0, none⟩), .pointer (some ⟨bv, 0, none⟩), .pointer (some ⟨bo, 0, none⟩), .pointer (some ⟨bf, 0, none⟩), .pointer (some ⟨bs, 0, none⟩)]) nodes.length np (kids nodes f (isPoint nd s) nd.2.1 (a, b) nd.2.2.2.1 (Proofs.Ytajmfdnmckbclaa.enter k.toNat nd (a, b) s) i) M0) wr) (fun v _ => nd.2.2.2.1.length - (intOf v).toNat)
          case atStart => exact ⟨0, Nat.zero_le _, rfl, by rw [hent]; exact hst⟩
          case round =>
            clear hst
            obtain ⟨i, hi, rfl, hst⟩ := hrel
            unfold mv at hst
            by_cases hlt : i < nd.2.2.2.1.length
            · skip
              · have hin : inner (isPoint nd s) nd.2.1 (a, b) i = (a, b) := by rw [hip]; simp [inner]
                repeat' (first
                   | go_skip
                   | (with_reducible refine Sl.k_guard ?_; (first | (refine Sl.guard_yes rfl ?_) | (refine Sl.guard_no rfl ?_) | (refine Sl.guard_cases rfl ?_ ?_ <;> intro hg <;> first | (exfalso; simp only [decide_eq_true_eq, decide_eq_false_iff_not, Bool.not_false, Bool.not_true, beq_iff_eq, beq_eq_false_iff_ne, ne_eq] at hg; omega) | (simp only [hg, Bool.not_true, Bool.not_false]))) <;> (try simp only [List.set_cons_succ, List.set_cons_zero, vOf_true, vOf_false, List.drop_succ_cons, List.drop_zero, List.take_succ_cons, List.take_zero, putD, Int.toNat_zero, Int.reduceToNat, Nat.mul_one, Nat.zero_add, Nat.add_zero, Nat.reduceMul, Nat.reduceAdd, Nat.zero_mul]))
                   | ((fail_if_success (go_big_may)); (first | go_skip | go_guarded | go_step))
                   | ((first
                        | (with_reducible refine Sl.k_load ?_; (first
                          | refine s_qt hst (qt_load rfl _ BoxIn.h inX rfl rfl) ?_
                          | (refine s_ex hst (qt_ldp_int evX asX inX) ?_; rintro v ⟨rfl, hI⟩)
                          | refine s_qt hst (by first | exact qt_ldp_u8 evX asX inX | exact qt_ldp_bool evX asX inX) ?_
                          | (refine s_ex hst (qt_ldp_str evX asX inX) ?_; rintro v ⟨rfl, hs⟩)
                          | (refine s_ex hst (qt_ldp_list evX asX inX) ?_; rintro v ⟨hvl, hv1⟩)
                          | (refine s_ex hst (qt_ldp evX asX inX) ?_; rintro v ⟨cl, rfl, hcl⟩)
                          | refine s_qt hst (by first | exact qt_ldB evX asX SlIn.h inX omX | exact qt_ldI evX asX SlIn.h inX omX | exact qt_ld2 evX asX SlIn.h inX omX | exact qt_load_own evX asX SlIn.h inX rfl (by simp; omega) | exact qt_load rfl _ asX inX rfl rfl) ?_))
                        | (with_reducible refine Sl.k_field ?_; (first
                          | refine s_qt hst (qt_field rfl inX) ?_
                          | (refine s_ex hst (qt_fieldp evX asX inX inX rfl) ?_; rintro v hp; (try simp only [Int.toNat_natCast, Int.toNat_natCast_add_one, Int.reduceToNat] at hp))
                          | (refine s_ex hst (qt_field_own evX asX inX) ?_; rintro v hp; (try simp only [Int.toNat_natCast, Int.toNat_natCast_add_one, Int.reduceToNat] at hp))))
                        | (with_reducible refine Sl.k_index ?_; (first
                          | refine s_qt hst (qt_indexA rfl rfl inX inX omX omX) ?_
                          | (refine s_ex hst (qt_indexP0 evX asX rfl inX inX) ?_; rintro v hp; (try simp only [Int.toNat_natCast, Int.toNat_natCast_add_one, Int.reduceToNat] at hp))
                          | (refine s_ex hst (qt_indexP1 evX asX rfl inX inX) ?_; rintro v hp; (try simp only [Int.toNat_natCast, Int.toNat_natCast_add_one, Int.reduceToNat] at hp))
                          | (refine s_ex hst (qt_index evX asX rfl inX inX omX omX) ?_; rintro v hp; (try simp only [Int.toNat_natCast, Int.toNat_natCast_add_one, Int.reduceToNat] at hp))
                          | (refine s_ex hst (qt_indexAp evX asX rfl inX inX rfl omX omX) ?_; rintro v hp; (try simp only [Int.toNat_natCast, Int.toNat_natCast_add_one, Int.reduceToNat] at hp))
                          | (refine s_ex hst (qt_index_own hst evX SlIn.h rfl inX inX omX omX) ?_; rintro v hp; (try simp only [Int.toNat_natCast, Int.toNat_natCast_add_one, Int.reduceToNat] at hp))))
                        | (with_reducible refine Sl.k_call ?_; (first
                          | refine s_qt hst (by first | exact qt_len evX asX inX | exact qt_len_own evX SlIn.h inX | exact qt_max rfl rfl | exact qt_min rfl rfl) ?_))); simp only [List.set_cons_succ, List.set_cons_zero, vOf_true, vOf_false, List.drop_succ_cons, List.drop_zero, List.take_succ_cons, List.take_zero, putD, Int.toNat_zero, Int.reduceToNat, Nat.mul_one, Nat.zero_add, Nat.add_zero, Nat.reduceMul, Nat.reduceAdd, Nat.zero_mul])
                   | (with_reducible refine Sl.gate rfl ?_; (first | go_skip | go_guarded | go_step))
                   | ((first | (with_reducible refine Sl.k_store ?_; (first
                          | refine s_stR hst rfl BoxIn.h evX asX inX rfl rfl ?_
                          | refine s_store hst rfl _ BoxIn.h inX evX rfl lenOk oneOk (by simp) ?_
                          | refine s_st1 hst rfl BoxIn.h evX asX inX (by simp) ?_
                          | refine s_stB hst evX asX SlIn.h inX evX omX ?_
                          | refine s_stI hst evX asX SlIn.h inX evX omX ?_
                          | refine s_st2 hst evX asX SlIn.h inX evX omX ?_); clear hst; intro w hst) | (refine s_box hst evX rfl ?_; clear hst; intro bx w hst) | (refine s_alloc hst inX ?_; clear hst; intro bk w hst)); (try simp only [List.set_cons_succ, List.set_cons_zero, vOf_true, vOf_false, List.drop_succ_cons, List.drop_zero, List.take_succ_cons, List.take_zero, putD, Int.toNat_zero, Int.reduceToNat, Nat.mul_one, Nat.zero_add, Nat.add_zero, Nat.reduceMul, Nat.reduceAdd, Nat.zero_mul]); (try simp only [List.set_cons_succ, List.set_cons_zero, List.drop_succ_cons, List.drop_zero, List.take_succ_cons, List.take_zero, List.nil_append, List.cons_append, List.append_nil, Value.cells, List.eraseIdx_cons_zero, List.eraseIdx_cons_succ, Nat.zero_add, Nat.add_zero, List.flatten_cons, List.flatten_nil, List.map_cons, List.map_nil] at hst)))
                have c := IH.out _ _ _ _ _ _ hI ha hb (kids_fits (hfit.enter _ _ _) i) (Nat.lt_of_le_of_lt (kids_left (Nat.le_refl _) i) hle) (mv_in [_, _, _] hst)
                refine s_callv c rfl (by infer_instance) rfl rfl ?_
                clear hst c; rintro v w ⟨rfl, hst⟩
                simp only [List.set_cons_succ, List.set_cons_zero, vOf_true, vOf_false, List.drop_succ_cons, List.drop_zero, List.take_succ_cons, List.take_zero, putD, Int.toNat_zero, Int.reduceToNat, Nat.mul_one, Nat.zero_add, Nat.add_zero, Nat.reduceMul, Nat.reduceAdd, Nat.zero_mul]
                repeat' (first
                   | go_skip
                   | (with_reducible refine Sl.k_guard ?_; (first | (refine Sl.guard_yes rfl ?_) | (refine Sl.guard_no rfl ?_) | (refine Sl.guard_cases rfl ?_ ?_ <;> intro hg <;> first | (exfalso; simp only [decide_eq_true_eq, decide_eq_false_iff_not, Bool.not_false, Bool.not_true, beq_iff_eq, beq_eq_false_iff_ne, ne_eq] at hg; omega) | (simp only [hg, Bool.not_true, Bool.not_false]))) <;> (try simp only [List.set_cons_succ, List.set_cons_zero, vOf_true, vOf_false, List.drop_succ_cons, List.drop_zero, List.take_succ_cons, List.take_zero, putD, Int.toNat_zero, Int.reduceToNat, Nat.mul_one, Nat.zero_add, Nat.add_zero, Nat.reduceMul, Nat.reduceAdd, Nat.zero_mul]))
                   | ((fail_if_success (go_big_may)); (first | go_skip | go_guarded | go_step))
                   | ((first
                        | (with_reducible refine Sl.k_load ?_; (first
                          | refine s_qt hst (qt_load rfl _ BoxIn.h inX rfl rfl) ?_
                          | (refine s_ex hst (qt_ldp_int evX asX inX) ?_; rintro v ⟨rfl, hI⟩)
                          | refine s_qt hst (by first | exact qt_ldp_u8 evX asX inX | exact qt_ldp_bool evX asX inX) ?_
                          | (refine s_ex hst (qt_ldp_str evX asX inX) ?_; rintro v ⟨rfl, hs⟩)
                          | (refine s_ex hst (qt_ldp_list evX asX inX) ?_; rintro v ⟨hvl, hv1⟩)
                          | (refine s_ex hst (qt_ldp evX asX inX) ?_; rintro v ⟨cl, rfl, hcl⟩)
                          | refine s_qt hst (by first | exact qt_ldB evX asX SlIn.h inX omX | exact qt_ldI evX asX SlIn.h inX omX | exact qt_ld2 evX asX SlIn.h inX omX | exact qt_load_own evX asX SlIn.h inX rfl (by simp; omega) | exact qt_load rfl _ asX inX rfl rfl) ?_))
                        | (with_reducible refine Sl.k_field ?_; (first
                          | refine s_qt hst (qt_field rfl inX) ?_
                          | (refine s_ex hst (qt_fieldp evX asX inX inX rfl) ?_; rintro v hp; (try simp only [Int.toNat_natCast, Int.toNat_natCast_add_one, Int.reduceToNat] at hp))
                          | (refine s_ex hst (qt_field_own evX asX inX) ?_; rintro v hp; (try simp only [Int.toNat_natCast, Int.toNat_natCast_add_one, Int.reduceToNat] at hp))))
                        | (with_reducible refine Sl.k_index ?_; (first
                          | refine s_qt hst (qt_indexA rfl rfl inX inX omX omX) ?_
                          | (refine s_ex hst (qt_indexP0 evX asX rfl inX inX) ?_; rintro v hp; (try simp only [Int.toNat_natCast, Int.toNat_natCast_add_one, Int.reduceToNat] at hp))
                          | (refine s_ex hst (qt_indexP1 evX asX rfl inX inX) ?_; rintro v hp; (try simp only [Int.toNat_natCast, Int.toNat_natCast_add_one, Int.reduceToNat] at hp))
                          | (refine s_ex hst (qt_index evX asX rfl inX inX omX omX) ?_; rintro v hp; (try simp only [Int.toNat_natCast, Int.toNat_natCast_add_one, Int.reduceToNat] at hp))
                          | (refine s_ex hst (qt_indexAp evX asX rfl inX inX rfl omX omX) ?_; rintro v hp; (try simp only [Int.toNat_natCast, Int.toNat_natCast_add_one, Int.reduceToNat] at hp))
                          | (refine s_ex hst (qt_index_own hst evX SlIn.h rfl inX inX omX omX) ?_; rintro v hp; (try simp only [Int.toNat_natCast, Int.toNat_natCast_add_one, Int.reduceToNat] at hp))))
                        | (with_reducible refine Sl.k_call ?_; (first
                          | refine s_qt hst (by first | exact qt_len evX asX inX | exact qt_len_own evX SlIn.h inX | exact qt_max rfl rfl | exact qt_min rfl rfl) ?_))); simp only [List.set_cons_succ, List.set_cons_zero, vOf_true, vOf_false, List.drop_succ_cons, List.drop_zero, List.take_succ_cons, List.take_zero, putD, Int.toNat_zero, Int.reduceToNat, Nat.mul_one, Nat.zero_add, Nat.add_zero, Nat.reduceMul, Nat.reduceAdd, Nat.zero_mul])
                   | (with_reducible refine Sl.gate rfl ?_; (first | go_skip | go_guarded | go_step))
                   | ((first | (with_reducible refine Sl.k_store ?_; (first
                          | refine s_stR hst rfl BoxIn.h evX asX inX rfl rfl ?_
                          | refine s_store hst rfl _ BoxIn.h inX evX rfl lenOk oneOk (by simp) ?_
                          | refine s_st1 hst rfl BoxIn.h evX asX inX (by simp) ?_
                          | refine s_stB hst evX asX SlIn.h inX evX omX ?_
                          | refine s_stI hst evX asX SlIn.h inX evX omX ?_
                          | refine s_st2 hst evX asX SlIn.h inX evX omX ?_); clear hst; intro w hst) | (refine s_box hst evX rfl ?_; clear hst; intro bx w hst) | (refine s_alloc hst inX ?_; clear hst; intro bk w hst)); (try simp only [List.set_cons_succ, List.set_cons_zero, vOf_true, vOf_false, List.drop_succ_cons, List.drop_zero, List.take_succ_cons, List.take_zero, putD, Int.toNat_zero, Int.reduceToNat, Nat.mul_one, Nat.zero_add, Nat.add_zero, Nat.reduceMul, Nat.reduceAdd, Nat.zero_mul]); (try simp only [List.set_cons_succ, List.set_cons_zero, List.drop_succ_cons, List.drop_zero, List.take_succ_cons, List.take_zero, List.nil_append, List.cons_append, List.append_nil, Value.cells, List.eraseIdx_cons_zero, List.eraseIdx_cons_succ, Nat.zero_add, Nat.add_zero, List.flatten_cons, List.flatten_nil, List.map_cons, List.map_nil] at hst)))
                go_roundw
                case rel =>
                  refine ⟨i + 1, by omega, by go_num, ?_⟩
                  rw [kids_succ, hin, getD_at hlt]
                  exact (mv_out [_, _, _] hst).drop
                case measure => simp [intOf]; omega
            · repeat' (first
                 | go_skip
                 | (with_reducible refine Sl.k_guard ?_; (first | (refine Sl.guard_yes rfl ?_) | (refine Sl.guard_no rfl ?_) | (refine Sl.guard_cases rfl ?_ ?_ <;> intro hg <;> first | (exfalso; simp only [decide_eq_true_eq, decide_eq_false_iff_not, Bool.not_false, Bool.not_true, beq_iff_eq, beq_eq_false_iff_ne, ne_eq] at hg; omega) | (simp only [hg, Bool.not_true, Bool.not_false]))) <;> (try simp only [List.set_cons_succ, List.set_cons_zero, vOf_true, vOf_false, List.drop_succ_cons, List.drop_zero, List.take_succ_cons, List.take_zero, putD, Int.toNat_zero, Int.reduceToNat, Nat.mul_one, Nat.zero_add, Nat.add_zero, Nat.reduceMul, Nat.reduceAdd, Nat.zero_mul]))
                 | ((fail_if_success (go_big_may)); (first | go_skip | go_guarded | go_step))
                 | ((first
                      | (with_reducible refine Sl.k_load ?_; (first
                        | refine s_qt hst (qt_load rfl _ BoxIn.h inX rfl rfl) ?_
                        | (refine s_ex hst (qt_ldp_int evX asX inX) ?_; rintro v ⟨rfl, hI⟩)
                        | refine s_qt hst (by first | exact qt_ldp_u8 evX asX inX | exact qt_ldp_bool evX asX inX) ?_
                        | (refine s_ex hst (qt_ldp_str evX asX inX) ?_; rintro v ⟨rfl, hs⟩)
                        | (refine s_ex hst (qt_ldp_list evX asX inX) ?_; rintro v ⟨hvl, hv1⟩)
                        | (refine s_ex hst (qt_ldp evX asX inX) ?_; rintro v ⟨cl, rfl, hcl⟩)
                        | refine s_qt hst (by first | exact qt_ldB evX asX SlIn.h inX omX | exact qt_ldI evX asX SlIn.h inX omX | exact qt_ld2 evX asX SlIn.h inX omX | exact qt_load_own evX asX SlIn.h inX rfl (by simp; omega) | exact qt_load rfl _ asX inX rfl rfl) ?_))
                      | (with_reducible refine Sl.k_field ?_; (first
                        | refine s_qt hst (qt_field rfl inX) ?_
                        | (refine s_ex hst (qt_fieldp evX asX inX inX rfl) ?_; rintro v hp; (try simp only [Int.toNat_natCast, Int.toNat_natCast_add_one, Int.reduceToNat] at hp))
                        | (refine s_ex hst (qt_field_own evX asX inX) ?_; rintro v hp; (try simp only [Int.toNat_natCast, Int.toNat_natCast_add_one, Int.reduceToNat] at hp))))
                      | (with_reducible refine Sl.k_index ?_; (first
                        | refine s_qt hst (qt_indexA rfl rfl inX inX omX omX) ?_
                        | (refine s_ex hst (qt_indexP0 evX asX rfl inX inX) ?_; rintro v hp; (try simp only [Int.toNat_natCast, Int.toNat_natCast_add_one, Int.reduceToNat] at hp))
                        | (refine s_ex hst (qt_indexP1 evX asX rfl inX inX) ?_; rintro v hp; (try simp only [Int.toNat_natCast, Int.toNat_natCast_add_one, Int.reduceToNat] at hp))
                        | (refine s_ex hst (qt_index evX asX rfl inX inX omX omX) ?_; rintro v hp; (try simp only [Int.toNat_natCast, Int.toNat_natCast_add_one, Int.reduceToNat] at hp))
                        | (refine s_ex hst (qt_indexAp evX asX rfl inX inX rfl omX omX) ?_; rintro v hp; (try simp only [Int.toNat_natCast, Int.toNat_natCast_add_one, Int.reduceToNat] at hp))
                        | (refine s_ex hst (qt_index_own hst evX SlIn.h rfl inX inX omX omX) ?_; rintro v hp; (try simp only [Int.toNat_natCast, Int.toNat_natCast_add_one, Int.reduceToNat] at hp))))
                      | (with_reducible refine Sl.k_call ?_; (first
                        | refine s_qt hst (by first | exact qt_len evX asX inX | exact qt_len_own evX SlIn.h inX | exact qt_max rfl rfl | exact qt_min rfl rfl) ?_))); simp only [List.set_cons_succ, List.set_cons_zero, vOf_true, vOf_false, List.drop_succ_cons, List.drop_zero, List.take_succ_cons, List.take_zero, putD, Int.toNat_zero, Int.reduceToNat, Nat.mul_one, Nat.zero_add, Nat.add_zero, Nat.reduceMul, Nat.reduceAdd, Nat.zero_mul])
                 | (with_reducible refine Sl.gate rfl ?_; (first | go_skip | go_guarded | go_step))
                 | ((first | (with_reducible refine Sl.k_store ?_; (first
                        | refine s_stR hst rfl BoxIn.h evX asX inX rfl rfl ?_
                        | refine s_store hst rfl _ BoxIn.h inX evX rfl lenOk oneOk (by simp) ?_
                        | refine s_st1 hst rfl BoxIn.h evX asX inX (by simp) ?_
                        | refine s_stB hst evX asX SlIn.h inX evX omX ?_
                        | refine s_stI hst evX asX SlIn.h inX evX omX ?_
                        | refine s_st2 hst evX asX SlIn.h inX evX omX ?_); clear hst; intro w hst) | (refine s_box hst evX rfl ?_; clear hst; intro bx w hst) | (refine s_alloc hst inX ?_; clear hst; intro bk w hst)); (try simp only [List.set_cons_succ, List.set_cons_zero, vOf_true, vOf_false, List.drop_succ_cons, List.drop_zero, List.take_succ_cons, List.take_zero, putD, Int.toNat_zero, Int.reduceToNat, Nat.mul_one, Nat.zero_add, Nat.add_zero, Nat.reduceMul, Nat.reduceAdd, Nat.zero_mul]); (try simp only [List.set_cons_succ, List.set_cons_zero, List.drop_succ_cons, List.drop_zero, List.take_succ_cons, List.take_zero, List.nil_append, List.cons_append, List.append_nil, Value.cells, List.eraseIdx_cons_zero, List.eraseIdx_cons_succ, Nat.zero_add, Nat.add_zero, List.flatten_cons, List.flatten_nil, List.map_cons, List.map_nil] at hst)))
              go_end0
              refine ⟨_, rfl, rfl, ?_⟩
              rw [visit_some hg0, ← show i = nd.2.2.2.1.length by omega]
              exact hst.drop.drop
end Go.Proofs.Ytajmfdnmckbclaa
