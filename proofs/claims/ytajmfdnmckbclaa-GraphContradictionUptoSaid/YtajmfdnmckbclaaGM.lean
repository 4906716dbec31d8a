/- Package graph: the plain mathematics of its laws, with no program in sight. -/
import Derived.Test.YtajmfdnmckbclaaG10
namespace Go.Proofs.Ytajmfdnmckbclaa
set_option linter.unusedSimpArgs false
set_option linter.unusedVariables false
open Go.RowKit Go.Sl

/-- Following enclosing points from here ends within so many steps. -/
def chain (en : List (Int × Int)) : Nat → Int → Prop
  | 0, m => m = -1
  | d + 1, m => m = -1 ∨ (0 ≤ m ∧ m.toNat < en.length ∧ chain en d (en.getD m.toNat (-1, 0)).1)

theorem chain_succ {en : List (Int × Int)} : ∀ {d : Nat} {m : Int}, chain en d m → chain en (d + 1) m
  | 0, _, h => .inl h
  | _ + 1, _, .inl h => .inl h
  | _ + 1, _, .inr ⟨a, b, c⟩ => .inr ⟨a, b, chain_succ c⟩

theorem chain_mono {en : List (Int × Int)} {d m} (h : chain en d m) : ∀ {d' : Nat}, d ≤ d' → chain en d' m := by
  intro d' hd
  induction hd with
  | refl => exact h
  | step _ ih => exact chain_succ ih

def reach (out : List (Int × Int)) (found : List Bool) : Nat → Int → Prop
  | 0, m => m = -1
  | d + 1, m => m = -1 ∨ (0 ≤ m ∧ m.toNat < out.length ∧ found.getD m.toNat false = true ∧ reach out found d (out.getD m.toNat (-1, 0)).1)

theorem reach_neg (out : List (Int × Int)) (found : List Bool) : ∀ d, reach out found d (-1)
  | 0 => rfl
  | _ + 1 => .inl rfl

theorem reach_succ {out : List (Int × Int)} {found : List Bool} : ∀ {d : Nat} {m : Int}, reach out found d m → reach out found (d + 1) m
  | 0, _, h => .inl h
  | _ + 1, _, .inl h => .inl h
  | _ + 1, _, .inr ⟨a, b, c, e⟩ => .inr ⟨a, b, c, reach_succ e⟩

theorem reach_set {out : List (Int × Int)} {found : List Bool} {n : Nat} {ar : Int × Int} (hn : found.getD n false = false) : ∀ {d : Nat} {m : Int}, reach out found d m → reach (out.set n ar) (found.set n true) d m
  | 0, _, h => h
  | _ + 1, _, .inl h => .inl h
  | d + 1, m, .inr ⟨a, b, c, e⟩ => by
    have hne : n ≠ m.toNat := by rintro rfl; rw [hn] at c; cases c
    refine .inr ⟨a, by simpa using b, ?_, ?_⟩
    · simpa [List.getD_eq_getElem?_getD, List.getElem?_set_ne hne] using c
    · have := reach_set (ar := ar) hn e
      simpa [List.getD_eq_getElem?_getD, List.getElem?_set_ne hne] using this

theorem reach_chain {out : List (Int × Int)} {found : List Bool} : ∀ {d : Nat} {m : Int}, reach out found d m → chain out d m
  | 0, _, h => h
  | _ + 1, _, .inl h => .inl h
  | _ + 1, _, .inr ⟨a, b, _, e⟩ => .inr ⟨a, b, reach_chain e⟩

theorem count_setT {l : List Bool} {k : Nat} (h : l[k]? = some false) : (l.set k true).count true = l.count true + 1 := by
  induction l generalizing k with
  | nil => simp at h
  | cons b l ih =>
    cases k with
    | zero => simp at h; subst h; simp
    | succ k => simp at h; have := ih h; cases b <;> simp <;> omega

def Rch (s : VS) (x : Int) : Prop := reach s.out s.found (s.found.count true) x

structure Forest (np : Nat) (s : VS) : Prop where
  out : s.out.length = np
  found : s.found.length = np
  yes : ∀ m < np, s.found.getD m false = true → Rch s m
  no : ∀ m < np, s.found.getD m false = false → s.out.getD m (-1, 0) = (-1, 0)

theorem enter_forest {np : Nat} {s : VS} {ar : Int × Int} (k : Nat) (nd : Nd) (h : Forest np s) (ha : Rch s ar.1) :
    Forest np (enter k nd ar s) ∧ (∀ x, Rch s x → Rch (enter k nd ar s) x) ∧ (isPoint nd s = true → Rch (enter k nd ar s) nd.2.1) := by
  by_cases hp : isPoint nd s = true
  · have hp' := hp
    simp only [isPoint, Bool.and_eq_true, decide_eq_true_eq, Bool.not_eq_true', h.out] at hp
    obtain ⟨_, h0, h1, h2⟩ := hp
    have hl : nd.2.1.toNat < s.found.length := by have := h.found; omega
    have hf : s.found[nd.2.1.toNat]? = some false := by
      rw [List.getElem?_eq_getElem hl]
      rw [List.getD_eq_getElem?_getD, List.getElem?_eq_getElem hl] at h2
      exact congrArg some h2
    have hf' : s.found.getD nd.2.1.toNat false = false := by rw [List.getD_eq_getElem?_getD, hf]; rfl
    have he : enter k nd ar s = ⟨s.seen.set k true, s.out.set nd.2.1.toNat ar, s.found.set nd.2.1.toNat true⟩ := by unfold enter; rw [if_pos hp']
    have hle : ∀ x, Rch s x → Rch (enter k nd ar s) x := fun x hx => by
      rw [he]; unfold Rch
      simp only [count_setT hf]
      exact reach_succ (reach_set hf' hx)
    have hnew : Rch (enter k nd ar s) nd.2.1 := by
      rw [he]; unfold Rch
      simp only [count_setT hf]
      refine .inr ⟨h0, by simp [h.out]; omega, by simp [List.getD_eq_getElem?_getD, List.getElem?_set_self hl], ?_⟩
      have : (s.out.set nd.2.1.toNat ar).getD nd.2.1.toNat (-1, 0) = ar := by
        rw [List.getD_eq_getElem?_getD, List.getElem?_set_self (by have := h.out; omega)]; rfl
      rw [this]
      exact reach_set hf' ha
    refine ⟨⟨by rw [he]; simp [h.out], by rw [he]; simp [h.found], fun m hm hfm => ?_, fun m hm hfm => ?_⟩, hle, fun _ => hnew⟩
    · by_cases hmn : m = nd.2.1.toNat
      · subst hmn
        rw [show ((nd.2.1.toNat : Nat) : Int) = nd.2.1 by omega]; exact hnew
      · refine hle _ (h.yes m hm ?_)
        rw [he] at hfm
        simpa [List.getD_eq_getElem?_getD, List.getElem?_set_ne (Ne.symm hmn)] using hfm
    · rw [he] at hfm ⊢
      by_cases hmn : m = nd.2.1.toNat
      · subst hmn
        simp [List.getD_eq_getElem?_getD, List.getElem?_set_self hl] at hfm
      · have := h.no m hm (by simpa [List.getD_eq_getElem?_getD, List.getElem?_set_ne (Ne.symm hmn)] using hfm)
        simpa [List.getD_eq_getElem?_getD, List.getElem?_set_ne (Ne.symm hmn)] using this
  · have he : enter k nd ar s = ⟨s.seen.set k true, s.out, s.found⟩ := by unfold enter; rw [if_neg hp]
    rw [he]
    exact ⟨⟨h.out, h.found, h.yes, h.no⟩, fun x hx => hx, fun h => absurd h hp⟩

theorem visit_forest {nodes : List Nd} {np : Nat} : ∀ (f : Nat) (k : Int) (ar : Int × Int) (s : VS), Forest np s → Rch s ar.1 → Forest np (visit nodes f k ar s) ∧ ∀ x, Rch s x → Rch (visit nodes f k ar s) x
  | 0, _, _, _, h, _ => ⟨h, fun _ h => h⟩
  | f + 1, k, ar, s, h, ha => by
    unfold visit
    split
    · exact ⟨h, fun _ h => h⟩
    · rename_i nd hg
      obtain ⟨he, hle, hnew⟩ := enter_forest k.toNat nd h ha
      have hx := foldl_keeps (p := fun t => Forest np t ∧ ∀ x, Rch (enter k.toNat nd ar s) x → Rch t x)
        (f := fun t i => visit nodes f (nd.2.2.2.1.getD i 0) (inner (isPoint nd s) nd.2.1 ar i) t)
        (fun t i ht => by
          have hin : Rch (enter k.toNat nd ar s) (inner (isPoint nd s) nd.2.1 ar i).1 := by
            unfold inner
            split
            · rename_i c; exact hnew c.1
            · split
              · rename_i c; exact hnew c.1
              · exact hle _ ha
          have := visit_forest (nodes := nodes) f (nd.2.2.2.1.getD i 0) (inner (isPoint nd s) nd.2.1 ar i) t ht.1 (ht.2 _ hin)
          exact ⟨this.1, fun x hx => this.2 x (ht.2 x hx)⟩) (List.range nd.2.2.2.1.length) (enter k.toNat nd ar s) ⟨he, fun _ h => h⟩
      exact ⟨hx.1, fun x h => hx.2 x (hle x h)⟩

/-- Enclosing points form a forest: from each point one comes to the outside within as many steps as there are points. -/
theorem encl_chain (nodes : List Nd) (root pts : Int) (i : Nat) (hi : i < npOf pts) : chain (encl nodes root pts) (npOf pts) i := by
  have h := (visit_forest (nodes := nodes) (np := npOf pts) (nodes.length + 1) root (-1, 0) ⟨List.replicate nodes.length false, List.replicate (npOf pts) (-1, 0), List.replicate (npOf pts) false⟩
    ⟨by simp, by simp, fun m hm hf => by simp [List.getD_eq_getElem?_getD, List.getElem?_replicate, hm] at hf, fun m hm _ => by simp [List.getD_eq_getElem?_getD, List.getElem?_replicate, hm]⟩ (reach_neg _ _ _)).1
  have hlen := h.out
  have hfl := h.found
  have hyes := h.yes i hi
  have hno := h.no i hi
  unfold encl
  cases hf : (visit nodes (nodes.length + 1) root (-1, 0) ⟨List.replicate nodes.length false, List.replicate (npOf pts) (-1, 0), List.replicate (npOf pts) false⟩).found.getD i false with
  | true => exact chain_mono (reach_chain (hyes hf)) (by have := List.count_le_length (a := true) (l := (visit nodes (nodes.length + 1) root (-1, 0) ⟨List.replicate nodes.length false, List.replicate (npOf pts) (-1, 0), List.replicate (npOf pts) false⟩).found); omega)
  | false =>
    refine chain_mono (d := 1) (.inr ⟨by omega, by simpa [hlen] using hi, ?_⟩) (by omega)
    have := hno hf
    simp only [Int.toNat_natCast]
    rw [this]
    rfl

/-- Partial knowledge that agrees with outcomes. -/
def Agree (o t : List Int) : Prop := o.length = t.length ∧ ∀ i, o.getD i 0 = -1 ∨ o.getD i 0 = t.getD i 0
/-- What was known stays. -/
def Keeps (h o : List Int) : Prop := o.length = h.length ∧ ∀ i, h.getD i 0 ≠ -1 → o.getD i 0 = h.getD i 0

theorem getD_set0 {l : List Int} {i j : Nat} : (l.set i 0).getD j 0 = if i = j then 0 else l.getD j 0 := by
  by_cases h : i = j
  · subst h
    simp only [List.getD_eq_getElem?_getD, List.getElem?_set, if_true]
    split <;> rfl
  · simp [List.getD_eq_getElem?_getD, List.getElem?_set_ne h, h]

theorem shut_agree {q s : Int} {o t : List Int} (h : Agree o t) (hs : shutB q s o = true) : shutB q s t = true := by
  unfold shutB at hs ⊢
  split at hs
  · cases hs
  · rename_i hc
    rw [if_neg hc]
    simp only [Bool.and_eq_true, bne_iff_ne] at hs
    rcases h.2 q.toNat with e | e
    · exact absurd e hs.1
    · rw [← e]; simp only [Bool.and_eq_true, bne_iff_ne]; exact hs

theorem ok_zero {en : List (Int × Int)} {t : List Int} {i : Nat} (h : okAt en t i = true) (hs : shutAt en t i = true) : t.getD i 0 = 0 := by
  unfold okAt at h
  unfold shutAt at hs
  rw [hs] at h
  simpa using h

theorem look_agree {en : List (Int × Int)} {t : List Int} (hp : ∀ i < t.length, okAt en t i = true) {x : List Int × Bool} (h : Agree x.1 t) (i : Nat) : Agree (look en x i).1 t := by
  unfold look
  split
  · rename_i hc
    simp only [Bool.and_eq_true, beq_iff_eq] at hc
    refine ⟨by simpa using h.1, fun j => ?_⟩
    simp only [getD_set0]
    split
    · rename_i hij; subst hij
      right
      by_cases hl : i < t.length
      · exact (ok_zero (hp i hl) (shut_agree h hc.2)).symm
      · simp [List.getD_eq_getElem?_getD, List.getElem?_eq_none (by omega : t.length ≤ i)]
    · exact h.2 j
  · exact h

theorem look_keeps {en : List (Int × Int)} {h : List Int} {x : List Int × Bool} (hk : Keeps h x.1) (i : Nat) : Keeps h (look en x i).1 := by
  unfold look
  split
  · rename_i hc
    simp only [Bool.and_eq_true, beq_iff_eq] at hc
    refine ⟨by simpa using hk.1, fun j hj => ?_⟩
    simp only [getD_set0]
    split
    · rename_i hij; subst hij
      exact absurd (hk.2 i hj ▸ hc.1) hj
    · exact hk.2 j hj
  · exact hk

theorem looks_keep {en : List (Int × Int)} {p : List Int → Prop} (hp : ∀ x i, p x.1 → p (look en x i).1) {o : List Int} (h : p o) (n : Nat) : p (looks en o n).1 :=
  foldl_keeps (p := fun t : List Int × Bool => p t.1) (fun t i ht => hp t i ht) _ _ h

theorem settle_keep {en : List (Int × Int)} {p : List Int → Prop} (hp : ∀ x i, p x.1 → p (look en x i).1) : ∀ (f : Nat) {o : List Int}, p o → p (settle en f o)
  | 0, _, h => h
  | f + 1, o, h => by
    unfold settle
    split
    · exact settle_keep hp f (looks_keep hp h _)
    · exact looks_keep hp h _

theorem looks_false {en : List (Int × Int)} {o : List Int} : ∀ {n : Nat}, (looks en o n).2 = false → (looks en o n).1 = o ∧ ∀ i < n, ¬ (o.getD i 0 = -1 ∧ shutAt en o i = true)
  | 0, _ => ⟨rfl, fun i hi => by omega⟩
  | n + 1, h => by
    rw [looks_succ] at h ⊢
    unfold look at h ⊢
    split at h
    · cases h
    · rename_i hc
      obtain ⟨h1, h2⟩ := looks_false h
      rw [if_neg hc]
      refine ⟨h1, fun i hi => ?_⟩
      rcases Nat.lt_succ_iff_lt_or_eq.1 hi with hi | rfl
      · exact h2 i hi
      · rw [h1] at hc
        simpa using hc

/-- Settled: nothing more to complete. -/
def Settled (en : List (Int × Int)) (o : List Int) : Prop := (looks en o o.length).2 = false

theorem settle_settled {en : List (Int × Int)} : ∀ (f : Nat) (o : List Int), unknowns o < f → Settled en (settle en f o)
  | 0, _, h => by omega
  | f + 1, o, h => by
    unfold settle
    have hc := looks_count en o o.length
    split
    · rename_i hb
      rw [hb] at hc
      simp only [if_true] at hc
      exact settle_settled f _ (by omega)
    · rename_i hb
      have hb' : (looks en o o.length).2 = false := by simpa using hb
      rw [(looks_false hb').1]
      exact hb'

theorem settle_id {en : List (Int × Int)} {o : List Int} (h : Settled en o) (f : Nat) : settle en f o = o := by
  cases f with
  | zero => rfl
  | succ f =>
    unfold settle
    rw [if_neg (by rw [show (looks en o o.length).2 = false from h]; simp)]
    exact (looks_false h).1

theorem valid_iff {took : List Int} {n : Nat} {least : Int} : validB took n least = true ↔ took.length = n ∧ ∀ x ∈ took, least ≤ x ∧ x ≤ 3 := by
  simp only [validB, Bool.and_eq_true, decide_eq_true_eq, Bool.not_eq_true', List.any_eq_false, Bool.or_eq_true]
  constructor
  · rintro ⟨h, h2⟩
    exact ⟨by omega, fun x hx => by have := h2 x hx; omega⟩
  · rintro ⟨h, h2⟩
    exact ⟨by omega, fun x hx => by have := h2 x hx; omega⟩

theorem mem_getD {l : List Int} {x : Int} (h : x ∈ l) : ∃ i < l.length, l.getD i 0 = x := by
  obtain ⟨i, hi, rfl⟩ := List.mem_iff_getElem.1 h
  exact ⟨i, hi, getD_at hi⟩

theorem poss_iff {en : List (Int × Int)} {t : List Int} : possB en t = true ↔ (t.length = en.length ∧ ∀ x ∈ t, 0 ≤ x ∧ x ≤ 3) ∧ ∀ i < t.length, okAt en t i = true := by
  simp only [possB, Bool.and_eq_true, valid_iff, List.all_eq_true, List.mem_range]

theorem unknowns_le (o : List Int) : unknowns o < o.length + 1 := by
  have := List.count_le_length (a := (-1 : Int)) (l := o)
  unfold unknowns; omega

theorem infer_some {en : List (Int × Int)} {h o : List Int} : infer en h = some o ↔ (h.length = en.length ∧ ∀ x ∈ h, -1 ≤ x ∧ x ≤ 3) ∧ o = settle en (h.length + 1) h ∧ ∀ i < o.length, ¬ (o.getD i 0 > 0 ∧ shutAt en o i = true) := by
  unfold infer
  by_cases hv : validB h en.length (-1) = true
  · rw [if_pos hv]
    have hv' := valid_iff.1 hv
    by_cases hb : (List.range (settle en (h.length + 1) h).length).any (bad en (settle en (h.length + 1) h)) = true
    · simp only [hb, if_true]
      constructor
      · intro e; cases e
      · rintro ⟨_, rfl, h3⟩
        rw [List.any_eq_true] at hb
        obtain ⟨i, hi, hbi⟩ := hb
        simp only [bad, Bool.and_eq_true, decide_eq_true_eq] at hbi
        exact absurd hbi (h3 i (List.mem_range.1 hi))
    · have hb' := hb
      simp only [hb', if_false, Bool.false_eq_true]
      constructor
      · intro e
        obtain rfl := Option.some.inj e
        refine ⟨hv', rfl, fun i hi hx => hb ?_⟩
        rw [List.any_eq_true]
        exact ⟨i, List.mem_range.2 hi, by simp only [bad, Bool.and_eq_true, decide_eq_true_eq]; exact hx⟩
      · rintro ⟨_, rfl, _⟩; rfl
  · rw [if_neg hv]
    constructor
    · intro e; cases e
    · rintro ⟨h1, _⟩; exact absurd (valid_iff.2 h1) hv

theorem infer_sound {en : List (Int × Int)} {took h : List Int} (hp : possB en took = true) (hh : Agree h took) : ∃ l, infer en h = some l ∧ Agree l took ∧ Keeps h l := by
  obtain ⟨⟨h1, h2⟩, h3⟩ := poss_iff.1 hp
  have ha : Agree (settle en (h.length + 1) h) took := settle_keep (p := fun o => Agree o took) (fun x i => fun hx => look_agree h3 hx i) _ hh
  have hk : Keeps h (settle en (h.length + 1) h) := settle_keep (p := fun o => Keeps h o) (fun x i => fun hx => look_keeps hx i) _ ⟨rfl, fun _ _ => rfl⟩
  refine ⟨_, infer_some.2 ⟨⟨hh.1.trans h1, fun x hx => ?_⟩, rfl, fun i hi hb => ?_⟩, ha, hk⟩
  · obtain ⟨i, hi, rfl⟩ := mem_getD hx
    rcases hh.2 i with e | e
    · omega
    · have := h2 _ (List.getElem_mem (h := (by have := hh.1; omega : i < took.length)))
      rw [e, getD_at (by have := hh.1; omega)]; omega
  · have hz := ok_zero (h3 i (by rw [ha.1] at hi; exact hi)) (shut_agree ha hb.2)
    rcases ha.2 i with e | e
    · omega
    · omega

/-- Unknown outcomes taken as: both sides. -/
def fill (o : List Int) : List Int := o.map fun x => if x = -1 then 3 else x

theorem fill_getD (o : List Int) (i : Nat) : (fill o).getD i 0 = if o.getD i 0 = -1 then 3 else o.getD i 0 := by
  simp only [fill, List.getD_eq_getElem?_getD, List.getElem?_map]
  cases o[i]? <;> simp

theorem infer_settled {en : List (Int × Int)} {took o : List Int} (h : infer en took = some o) : Settled en o ∧ Keeps took o ∧ (o.length = en.length ∧ ∀ x ∈ o, -1 ≤ x ∧ x ≤ 3) ∧ ∀ i < o.length, ¬ (o.getD i 0 > 0 ∧ shutAt en o i = true) := by
  obtain ⟨⟨h1, h2⟩, rfl, h3⟩ := infer_some.1 h
  have hk : Keeps took (settle en (took.length + 1) took) := settle_keep (p := fun o => Keeps took o) (fun x i => fun hx => look_keeps hx i) _ ⟨rfl, fun _ _ => rfl⟩
  refine ⟨settle_settled _ _ (unknowns_le _), hk, ⟨hk.1.trans h1, ?_⟩, h3⟩
  refine settle_keep (p := fun o => ∀ x ∈ o, -1 ≤ x ∧ x ≤ 3) (fun x i hx => ?_) _ h2
  unfold look
  split
  · intro y hy
    rcases List.mem_or_eq_of_mem_set hy with hy | rfl
    · exact hx y hy
    · omega
  · exact hx

theorem infer_complete {en : List (Int × Int)} {took o : List Int} (hs : ∀ p ∈ en, Encl en.length p) (h : infer en took = some o) : possB en (fill o) = true ∧ Keeps took o := by
  obtain ⟨h1, h2, ⟨h3, h4⟩, h5⟩ := infer_settled h
  refine ⟨poss_iff.2 ⟨⟨by simp [fill, h3], fun x hx => ?_⟩, fun i hi => ?_⟩, h2⟩
  · simp only [fill, List.mem_map] at hx
    obtain ⟨y, hy, rfl⟩ := hx
    have := h4 y hy
    split <;> omega
  · have hi' : i < o.length := by simpa [fill] using hi
    have hns : shutAt en (fill o) i = true → shutAt en o i = true := by
      intro hsh
      unfold shutAt shutB at hsh ⊢
      split at hsh
      · cases hsh
      · rename_i hc
        rw [if_neg hc]
        simp only [fill_getD, Bool.and_eq_true, bne_iff_ne, beq_iff_eq] at hsh ⊢
        split at hsh
        · exfalso
          have hie : i < en.length := by omega
          have := hs _ (List.getElem_mem hie)
          have e : en.getD i (-1, 0) = en[i] := by simp [List.getD, List.getElem?_eq_getElem hie]
          rw [e] at hc hsh
          rcases this with e2 | ⟨_, _, e2 | e2⟩
          · exact hc (by rw [e2]; exact ⟨rfl, rfl⟩)
          · rw [e2] at hsh; exact absurd hsh.2 (by decide)
          · rw [e2] at hsh; exact absurd hsh.2 (by decide)
        · exact hsh
    have hok : ¬ ((fill o).getD i 0 ≠ 0 ∧ shutAt en (fill o) i = true) := by
      rintro ⟨ha, hb⟩
      have hb' := hns hb
      rw [fill_getD] at ha
      split at ha
      · rename_i hu
        exact (looks_false h1).2 i hi' ⟨hu, hb'⟩
      · rename_i hu
        have hm : o.getD i 0 ∈ o := by rw [getD_at hi']; exact List.getElem_mem hi'
        have := h4 _ hm
        exact h5 i hi' ⟨by omega, hb'⟩
    unfold okAt
    simp only [Bool.not_eq_true', Bool.and_eq_false_iff, bne_eq_false_iff_eq]
    by_cases hz : (fill o).getD i 0 = 0
    · exact .inl hz
    · exact .inr (Bool.eq_false_iff.2 fun e => hok ⟨hz, e⟩)

theorem infer_idem {en : List (Int × Int)} {took o : List Int} (h : infer en took = some o) : infer en o = some o := by
  obtain ⟨h1, h2, h3, h5⟩ := infer_settled h
  exact infer_some.2 ⟨h3, (settle_id h1 _).symm, h5⟩

theorem infer_full {en : List (Int × Int)} {took : List Int} (hf : ∀ x ∈ took, 0 ≤ x) : (infer en took).isSome = possB en took := by
  rw [Bool.eq_iff_iff, Option.isSome_iff_exists, poss_iff]
  have hset : Settled en took := by
    unfold Settled
    have : ∀ n, looks en took n = (took, false) := by
      intro n
      induction n with
      | zero => rfl
      | succ n ih =>
        rw [looks_succ, ih]
        unfold look
        rw [if_neg]
        simp only [Bool.and_eq_true, beq_iff_eq, not_and]
        intro e
        exfalso
        by_cases hn : n < took.length
        · have := hf _ (List.getElem_mem hn)
          rw [getD_at hn] at e; omega
        · simp [List.getD_eq_getElem?_getD, List.getElem?_eq_none (by omega : took.length ≤ n)] at e
    rw [this]
  have hid := settle_id hset (took.length + 1)
  have hok : ∀ i < took.length, okAt en took i = true ↔ ¬ (took.getD i 0 > 0 ∧ shutAt en took i = true) := by
    intro i hi
    have hm : took.getD i 0 ∈ took := by rw [getD_at hi]; exact List.getElem_mem hi
    have := hf _ hm
    unfold okAt shutAt
    simp only [Bool.not_eq_true', Bool.and_eq_false_iff, bne_eq_false_iff_eq, not_and, Bool.not_eq_true]
    constructor
    · rintro (h | h) hg
      · omega
      · exact h
    · intro h
      by_cases hz : took.getD i 0 = 0
      · exact .inl hz
      · exact .inr (h (by omega))
  constructor
  · rintro ⟨o, ho⟩
    obtain ⟨⟨h1, h2⟩, h3, h4⟩ := infer_some.1 ho
    rw [hid] at h3
    subst h3
    exact ⟨⟨h1, fun x hx => ⟨hf x hx, (h2 x hx).2⟩⟩, fun i hi => (hok i hi).2 (h4 i hi)⟩
  · rintro ⟨⟨h1, h2⟩, h3⟩
    exact ⟨took, infer_some.2 ⟨⟨h1, fun x hx => by have := h2 x hx; omega⟩, hid.symm, fun i hi => (hok i hi).1 (h3 i hi)⟩⟩

/-- The first n digits of k in base 4, the lowest first. -/
def digits : Nat → Nat → List Int
  | 0, _ => []
  | n + 1, k => ((k % 4 : Nat) : Int) :: digits n (k / 4)

theorem digits_snoc : ∀ (n k : Nat), digits (n + 1) k = digits n k ++ [((k / 4 ^ n % 4 : Nat) : Int)]
  | 0, k => by simp [digits]
  | n + 1, k => by
    rw [digits, digits_snoc n (k / 4), digits]
    simp only [List.cons_append, Nat.div_div_eq_div_mul]
    rw [Nat.pow_succ, Nat.mul_comm 4 (4 ^ n)]

theorem digits_length : ∀ n k, (digits n k).length = n
  | 0, _ => rfl
  | n + 1, k => by simp [digits, digits_length n]

theorem digits_all : ∀ (c : List Int), (∀ x ∈ c, 0 ≤ x ∧ x ≤ 3) → ∃ k < 4 ^ c.length, digits c.length k = c
  | [], _ => ⟨0, by simp, rfl⟩
  | x :: c, h => by
    obtain ⟨k, hk, e⟩ := digits_all c fun y hy => h y (List.mem_cons_of_mem _ hy)
    have hx := h x List.mem_cons_self
    refine ⟨x.toNat + 4 * k, ?_, ?_⟩
    · simp only [List.length_cons, Nat.pow_succ]; omega
    · simp only [List.length_cons, digits]
      rw [show (x.toNat + 4 * k) % 4 = x.toNat by omega, show (x.toNat + 4 * k) / 4 = k by omega, e]
      congr 1
      omega

/-- Infer succeeds if and only if possible outcomes agree. -/
theorem infer_iff {en : List (Int × Int)} {took : List Int} (hs : ∀ p ∈ en, Encl en.length p) (hl : took.length = en.length) :
    (infer en took).isSome = true ↔ ∃ k < 4 ^ en.length, Agree took (digits en.length k) ∧ possB en (digits en.length k) = true := by
  rw [Option.isSome_iff_exists]
  constructor
  · rintro ⟨o, ho⟩
    obtain ⟨h1, h2⟩ := infer_complete hs ho
    obtain ⟨⟨h3, h4⟩, _⟩ := poss_iff.1 h1
    obtain ⟨k, hk, e⟩ := digits_all (fill o) h4
    rw [h3] at hk e
    refine ⟨k, hk, ?_, by rw [e]; exact h1⟩
    rw [e]
    refine ⟨by omega, fun i => ?_⟩
    by_cases hu : took.getD i 0 = -1
    · exact .inl hu
    · right
      rw [fill_getD, h2.2 i hu, if_neg hu]
  · rintro ⟨k, hk, ha, hp⟩
    obtain ⟨l, h, _⟩ := infer_sound hp ha
    exact ⟨l, h⟩
end Go.Proofs.Ytajmfdnmckbclaa
