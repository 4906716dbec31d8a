/- Rules for walking a program, third part: bags of operations, ranges over functions with a boxed variable. -/
import Derived.Test.YtcobalpbencboaaDoorBb

/- Regions that draw their order: a bag of calls, each of which makes a datum; whichever order they come in. General over the program. -/
namespace Go.Sl
set_option linter.unusedSimpArgs false
set_option linter.unusedVariables false
open Go.RowKit
section
variable {P : Program} {lo : List Oper} {Q : Exit → Act → World → Prop}

/-- In every world of the class, whatever more is data by then, the operation calls a function that makes a datum. -/
def Makes (P : Program) (S : Snap) (M : List Chunk) (l : List Value) (o : Oper) (F : Snap → Value → Prop) : Prop :=
  ∀ S' w, S.Le S' → St S' M w → (∃ fn args, (execOp (evF l) o).run P w = .ok (.enter fn args) w ∧ Calls P fn args w (fun e w' => ∃ v S'', e = .returned v ∧ S'.Le S'' ∧ F S'' v ∧ St S'' M w')) ∨
    (∃ v w' S'', (execOp (evF l) o).run P w = .ok (.value v) w' ∧ S'.Le S'' ∧ F S'' v ∧ St S'' M w')
theorem Makes.mono {S S1 : Snap} {M : List Chunk} {l : List Value} {o : Oper} {F : Snap → Value → Prop} (h : Makes P S M l o F) (hS : S.Le S1) : Makes P S1 M l o F :=
  fun S' w h1 h2 => h S' w (hS.trans h1) h2

/-- Every order of the bag: what is ready is in what is left of it. -/
def bagOk (lo : List Oper) : Nat → List Bool → List Nat → Bool
  | 0, _, ks => ks.isEmpty
  | f + 1, bs, ks => !(Region.ready .any lo.toArray bs.toArray).isEmpty && (Region.ready .any lo.toArray bs.toArray).all fun k => ks.contains k && bagOk lo f (bs.set k true) (ks.erase k)

/-- What is known of an operation of the bag. -/
structure BagOp (P : Program) (lo : List Oper) (S : Snap) (M : List Chunk) (l : List Value) (k : Nat) (d : Tmp) (F : Snap → Value → Prop) : Prop where
  ex : ∃ o, lo[k]? = some o ∧ o.dst = some d ∧ isSt o = false ∧ Region.wanted o (yielded lo.toArray l.toArray) = true ∧ Makes P S M l o F

abbrev BagT := Nat × Tmp × (Snap → Value → Prop)
def bagSet (bag : List BagT) (vs : Nat → Value) (l : List Value) : List Value := bag.foldl (fun l b => l.set b.2.1 (vs b.1)) l
def bagMark (bag : List BagT) (bs : List Bool) : List Bool := bag.foldl (fun bs b => bs.set b.1 true) bs
theorem bagSet_cons (b : BagT) (r : List BagT) (vs : Nat → Value) (l : List Value) : bagSet (b :: r) vs l = bagSet r vs (l.set b.2.1 (vs b.1)) := rfl
theorem bagMark_cons (b : BagT) (r : List BagT) (bs : List Bool) : bagMark (b :: r) bs = bagMark r (bs.set b.1 true) := rfl
theorem set_comm' {α : Type} (l : List α) {i j : Nat} (h : i ≠ j) (x y : α) : (l.set i x).set j y = (l.set j y).set i x := List.set_comm x y h
theorem bagSet_set (r : List BagT) (vs : Nat → Value) : ∀ (l : List Value) (d : Nat) (v : Value), (∀ b ∈ r, b.2.1 ≠ d) → bagSet r vs (l.set d v) = (bagSet r vs l).set d v := by
  induction r with
  | nil => intros; rfl
  | cons b r ih =>
    intro l d v h
    rw [bagSet_cons, bagSet_cons, set_comm' l (fun e => h b (.head _) e.symm), ih _ _ _ fun c hc => h c (.tail _ hc)]
theorem bagMark_set (r : List BagT) : ∀ (bs : List Bool) (k : Nat), bagMark r (bs.set k true) = (bagMark r bs).set k true := by
  induction r with
  | nil => intros; rfl
  | cons b r ih =>
    intro bs k
    rw [bagMark_cons, bagMark_cons]
    by_cases e : k = b.1
    · rw [e, List.set_set, ih, List.set_set]
    · rw [set_comm' bs e, ih]

def bagApart (lo : List Oper) (ks : List Nat) : Bool := ks.all fun j => ks.all fun k => j == k || match lo[j]?, lo[k]? with | some a, some b => a.apart lo.toArray b | _, _ => false
theorem bagApart_spec {ks : List Nat} (h : bagApart lo ks = true) {j k : Nat} (hj : j ∈ ks) (hk : k ∈ ks) (hne : j ≠ k) {a b : Oper} (ha : lo[j]? = some a) (hb : lo[k]? = some b) : a.apart lo.toArray b = true := by
  have := List.all_eq_true.1 (List.all_eq_true.1 h j hj) k hk
  rw [ha, hb] at this
  simpa [hne] using this

theorem v_bag : ∀ (n : Nat) (bag : List BagT) {f : Nat} {S : Snap} {M : List Chunk} {bs : List Bool} {l : List Value} {D : List Deferred}, bag.length = n → bagOk lo n bs (bag.map (·.1)) = true → (bag.map (·.1)).Nodup → (bag.map (·.2.1)).Nodup → Region.noSelect lo.toArray = true → bagApart lo (bag.map (·.1)) = true →
    (∀ b ∈ bag, ∀ S S' v, S.Le S' → b.2.2 S v → b.2.2 S' v) → (∀ b ∈ bag, BagOp P lo S M l b.1 b.2.1 b.2.2) →
    (∀ S' vs, S.Le S' → (∀ b ∈ bag, b.2.2 S' (vs b.1)) → AnyV P lo Q f S' M (bagMark bag bs) (bagSet bag vs l) D) → AnyV P lo Q (f + n) S M bs l D := by
  intro n
  induction n with
  | zero =>
    intro bag f S M bs l D hn _ _ _ _ _ _ _ h
    obtain rfl := List.eq_nil_of_length_eq_zero hn
    exact h S (fun _ => undef) (Snap.Le.refl S) (by simp)
  | succ n ih =>
    intro bag f S M bs l D hn hok hnd hnd2 hsel hap hmono hop h
    rw [bagOk, Bool.and_eq_true] at hok
    obtain ⟨hready, hall⟩ := hok
    refine ⟨fun e => ?_, fun j hj w hst => ?_⟩
    · rw [e] at hready
      cases hready
    · have hallj0 := List.all_eq_true.1 hall j hj
      rw [Bool.and_eq_true] at hallj0
      have hallj := hallj0.2
      replace hj : j ∈ bag.map (·.1) := by simpa using hallj0.1
      obtain ⟨b, hb, rfl⟩ := List.mem_map.1 hj
      obtain ⟨r1, r2, rfl⟩ := List.append_of_mem hb
      obtain ⟨o, ho, hd, hns, hw, hmk⟩ := (hop b hb).ex
      have hmk0 := hmk S w (Snap.Le.refl S) hst
      have ho' : lo.toArray[b.1]? = some o := by simpa using ho
      have hk1 : b.1 ∉ r1.map (·.1) := by
        intro hm
        simp only [List.map_append, List.map_cons] at hnd
        exact (List.nodup_append.1 hnd).2.2 _ hm _ (.head _) rfl
      have her : ((r1 ++ b :: r2).map (·.1)).erase b.1 = (r1 ++ r2).map (·.1) := by
        rw [List.map_append, List.map_cons, List.erase_append_right _ hk1, List.erase_cons_head, List.map_append]
      suffices key : ∀ v S'' w'', S.Le S'' → b.2.2 S'' v → St S'' M w'' → ∃ S' M' l', ((∃ o, lo[b.1]? = some o ∧ isSt o = true) ∨ (S.Le S' ∧ Suf M M')) ∧ (⟨l.toArray, D⟩ : Act).put o.dst v = ⟨l'.toArray, D⟩ ∧ St S' M' w'' ∧ AnyV P lo Q (f + n) S' M' (bs.set b.1 true) l' D by
        unfold wpOp
        simp only [ho', hw, if_true]
        refine .inl ?_
        unfold Oper.wp
        rcases hmk0 with ⟨fn, args, hrun, hcall⟩ | ⟨v, w', S'', hrun, h1, h2, h3⟩
        · rw [evF_eq, hrun]
          refine Calls.mono hcall fun e w'' he => ?_
          obtain ⟨v, S'', rfl, hS'', hF, hst''⟩ := he
          exact key v S'' w'' hS'' hF hst''
        · rw [evF_eq, hrun]
          exact key v S'' w' h1 h2 h3
      intro v S'' w'' hS'' hF hst''
      refine ⟨S'', M, l.set b.2.1 v, .inr ⟨hS'', Suf.refl M⟩, ?_, hst'', ?_⟩
      · show (⟨l.toArray, D⟩ : Act).put o.dst v = _
        rw [hd, putD_put]
        rfl
      · have hsub : ∀ c ∈ r1 ++ r2, c ∈ r1 ++ b :: r2 := fun c hc => by
          rcases List.mem_append.1 hc with h | h
          · exact List.mem_append_left _ h
          · exact List.mem_append_right _ (.tail _ h)
        have hne : ∀ c ∈ r1 ++ r2, c.1 ≠ b.1 := fun c hc e => by
          simp only [List.map_append, List.map_cons] at hnd
          rcases List.mem_append.1 hc with h | h
          · exact hk1 (e ▸ List.mem_map_of_mem h)
          · exact (List.nodup_cons.1 (List.nodup_append.1 hnd).2.1).1 (e ▸ List.mem_map_of_mem h)
        have hdne : ∀ c ∈ r1, c.2.1 ≠ b.2.1 := fun c hc e => by
          simp only [List.map_append, List.map_cons] at hnd2
          exact (List.nodup_append.1 hnd2).2.2 _ (List.mem_map_of_mem hc) _ (.head _) e
        refine ih (r1 ++ r2) ?_ ?_ ?_ ?_ hsel ?_ (fun c hc => hmono c (hsub c hc)) ?_ ?_
        · simp only [List.length_append, List.length_cons] at hn ⊢; omega
        · rw [← her]; exact hallj
        · rw [← her]; exact hnd.erase _
        · simp only [List.map_append, List.map_cons] at hnd2 ⊢
          obtain ⟨a1, a2, a3⟩ := List.nodup_append.1 hnd2
          exact List.nodup_append.2 ⟨a1, (List.nodup_cons.1 a2).2, fun x hx y hy => a3 x hx y (.tail _ hy)⟩
        · refine List.all_eq_true.2 fun x hx => List.all_eq_true.2 fun y hy => ?_
          rw [← her] at hx hy
          exact List.all_eq_true.1 (List.all_eq_true.1 hap x (List.mem_of_mem_erase hx)) y (List.mem_of_mem_erase hy)
        · intro c hc
          obtain ⟨oc, hoc, hcd, hcns, hcw, hcm⟩ := (hop c (hsub c hc)).ex
          have hapb := bagApart_spec hap (List.mem_map_of_mem hb) (List.mem_map_of_mem (hsub c hc)) (fun e => hne c hc e.symm) ho hoc
          have h1 := (Oper.apart_spec hapb).1
          have hoc' : lo.toArray[c.1]? = some oc := by simpa using hoc
          have e1 : execOp (evF (l.set b.2.1 v)) oc = execOp (evF l) oc := by
            have := execOp_put oc (fun cs x => Region.noSelect_spec hsel c.1 oc cs x hoc') ⟨l.toArray, D⟩ o.dst v h1
            rw [hd, putD_put] at this
            rwa [evF_eq, evF_eq] at this
          have e2 : Region.wanted oc (yielded lo.toArray (l.set b.2.1 v).toArray) = Region.wanted oc (yielded lo.toArray l.toArray) := by
            have := wanted_put (ops := lo.toArray) oc ⟨l.toArray, D⟩ o.dst v h1
            rw [hd, putD_put] at this
            exact this
          refine ⟨⟨oc, hoc, hcd, hcns, e2.trans hcw, fun S' w h1 h2 => ?_⟩⟩
          rw [e1]
          exact hcm S' w (hS''.trans h1) h2
        · intro S' vs hS' hvs
          have hv2 := h S' (fun k => if k = b.1 then v else vs k) (hS''.trans hS') (fun c hc => by
            by_cases e : c.1 = b.1
            · have : c = b := by
                rcases List.mem_append.1 hc with h | h
                · exact absurd e (hne c (List.mem_append_left _ h))
                · rcases List.mem_cons.1 h with rfl | h
                  · rfl
                  · exact absurd e (hne c (List.mem_append_right _ h))
              subst this
              simp only [if_true]
              exact hmono c hc _ _ _ hS' hF
            · simp only [if_neg e]
              rcases List.mem_append.1 hc with h | h
              · exact hvs c (List.mem_append_left _ h)
              · rcases List.mem_cons.1 h with rfl | h
                · exact absurd rfl e
                · exact hvs c (List.mem_append_right _ h))
          have same : ∀ (r : List BagT) (l : List Value), (∀ c ∈ r, c.1 ≠ b.1) → bagSet r (fun k => if k = b.1 then v else vs k) l = bagSet r vs l := by
            intro r
            induction r with
            | nil => intros; rfl
            | cons c r ih =>
              intro l hc
              rw [bagSet_cons, bagSet_cons, if_neg (hc c (.head _)), ih _ fun d hd => hc d (.tail _ hd)]
          have es : bagSet (r1 ++ b :: r2) (fun k => if k = b.1 then v else vs k) l = bagSet (r1 ++ r2) vs (l.set b.2.1 v) := by
            rw [bagSet, List.foldl_append, List.foldl_cons, if_pos rfl]
            show bagSet r2 (fun k => if k = b.1 then v else vs k) ((bagSet r1 (fun k => if k = b.1 then v else vs k) l).set b.2.1 v) = _
            rw [same r1 l fun c hc => hne c (List.mem_append_left _ hc), same r2 _ fun c hc => hne c (List.mem_append_right _ hc), ← bagSet_set r1 vs l b.2.1 v hdne]
            rw [bagSet, bagSet, bagSet, List.foldl_append]
          have em : bagMark (r1 ++ b :: r2) bs = bagMark (r1 ++ r2) (bs.set b.1 true) := by
            rw [bagMark, List.foldl_append, List.foldl_cons]
            show bagMark r2 ((bagMark r1 bs).set b.1 true) = _
            rw [← bagMark_set r1 bs b.1, bagMark, bagMark, bagMark, List.foldl_append]
          rw [es, em] at hv2
          exact hv2

/-- A byte sequence as data. -/
abbrev isB (x : List UInt8) : Snap → Value → Prop := fun S v => RSl S v x ∧ v.oneCell' = true
theorem isB_mono {x : List UInt8} {S S' : Snap} {v : Value} (hS : S.Le S') (h : isB x S v) : isB x S' v := ⟨h.1.mono hS, h.2⟩
variable {S : Snap} {M : List Chunk} {l : List Value}
/-- A call that makes a byte sequence. -/
theorem bag_call (k : Nat) {fn : FuncId} {xs : List Operand} {ats : Array TypeId} {args : List Value} {d : Tmp} {ty : TypeId} {pos : String} {af : Array Edge} {g : Option (Nat × Bool)} {x : List UInt8}
    (ho : lo[k]? = some ⟨some d, .call { callee := .value (.func fn), args := xs.toArray, argTypes := ats }, ty, pos, af, g⟩) (hw : Region.wanted ⟨some d, .call { callee := .value (.func fn), args := xs.toArray, argTypes := ats }, ty, pos, af, g⟩ (yielded lo.toArray l.toArray) = true)
    (c : ∀ S' w, S.Le S' → St S' M w → Rets P fn args w fun v w' => ∃ S'', S'.Le S'' ∧ RSl S'' v x ∧ v.oneCell' = true ∧ St S'' M w') (hb : Body P fn) (ha : xs.map (evF l) = args) : BagOp P lo S M l k d (isB x) := by
  refine ⟨⟨_, ho, rfl, rfl, hw, fun S' w hS hst => .inl ⟨fn, args.toArray, ?_, ?_⟩⟩⟩
  · subst ha
    have := hb.enter (w := w) (xs.map (evF l)).toArray
    simp only [execOp, resolve, Deferred.ofValue, evF, Sem.run_bind, Sem.run_pure, Result.andThen_ok, invoke]
    simpa using this
  · exact Calls.mono (c S' w hS hst) fun e w' ⟨v, he, S'', h1, h2, h3, h4⟩ => ⟨v, S'', he, h1, ⟨h2, h3⟩, h4⟩
end
end Go.Sl

/- A bag of calls and literals that make data, in a form that our marks print. General over the program. -/
namespace Go.Sl
set_option linter.unusedSimpArgs false
set_option linter.unusedVariables false
open Go.RowKit
section
variable {P : Program} {lo : List Oper} {Q : Exit → Act → World → Prop} {S : Snap} {M : List Chunk} {l : List Value}
theorem Sls.mono {S S' : Snap} (hS : S.Le S') {vs : List Value} {xs : List (List UInt8)} (h : Sls S vs xs) : Sls S' vs xs := by
  induction h with
  | nil => exact .nil
  | cons h _ ih => exact .cons (h.mono hS) ih
/-- A list of byte sequences as data. -/
abbrev isP (xs : List (List UInt8)) : Snap → Value → Prop := fun S v => RSl S v xs ∧ v.oneCell' = true
theorem isP_mono {x : List (List UInt8)} {S S' : Snap} {v : Value} (hS : S.Le S') (h : isP x S v) : isP x S' v := ⟨h.1.mono hS, h.2⟩

theorem run_lit {w : World} {T E : TypeId} {n : Nat} {parts : Array (Nat × Operand)} {agg : Bool} {z : Nat} {zero : List Value} {bb : Nat} {vs cs : List Value} {d : Option Tmp} {ty : TypeId} {pos : String} {af : Array Edge} {g : Option (Nat × Bool)} (hst : St S M w) (hT : SlT P T E) (hE : Ty P E agg z zero bb)
    (hp : parts.toList.map (fun p => (p.1, evF l p.2)) = (vs.zipIdx.map fun p => (p.2, p.1))) (hn : vs.length = n) (hv : ∀ v ∈ vs, v.cells.size = z) (hc : (vs.map (·.cells.toList)).flatten = cs) (hs : n * z ≤ 16777216) (hz : 0 < z) :
    ∃ v w', (execOp (evF l) ⟨d, .buildSlice T n parts, ty, pos, af, g⟩).run P w = .ok (.value v) w' ∧ St S (.sl v E z n cs :: M) w' := by
  subst hc
  have hlen : (vs.map (·.cells.toList)).flatten.length = n * z := by
    rw [← hn]
    clear hp hn hs
    induction vs with
    | nil => simp
    | cons v r ih => simp [ih (fun u hu => hv u (.tail _ hu)), hv v (.head _), Nat.succ_mul, Nat.add_comm]
  refine ⟨.slice (some ⟨w.heap.size, 0, none⟩) n n, w.alloc (.cells (vs.map (·.cells.toList)).flatten.toArray E), ?_, (hst.alloc_sl (fz := (0, 0)) hlen (fun j _ => by simp) (Nat.le_refl _) ?_ (by simpa using Nat.le_of_eq hlen.symm) ?_)⟩
  · have hfill := fun q : Array Value => fill_all (z := z) vs 0 ((Array.range (n * z)).map (q[· % q.size]!)).toList hv (by simp [hn])
    simp only [Nat.zero_mul, List.take_zero, List.nil_append, Array.toArray_toList] at hfill
    have hparts : (parts.map fun (i, x) => (i, evF l x)).toList = (vs.zipIdx.map fun p => (p.2, p.1)) := by
      rw [← hp]; simp
    have h24 : ¬ (n * z > 2 ^ 24) := by omega
    simp only [execOp, Instr.buildSlice, Sem.run_bind, run_underlying hT.u, Result.andThen_ok, hE.run_sizeOf, h24, if_false, Sem.run_pure, hparts]
    by_cases h0 : n * z = 0
    · have hq := hfill #[]
      simp only [h0] at hq
      simp only [h0, if_true, Sem.run_pure, Result.andThen_ok, hq, Sem.run_bind]
      rfl
    · have hq := hfill (vOf agg zero).cells
      simp only [h0, if_false, Sem.run_bind, hE.run_zero, Sem.run_pure, Result.andThen_ok, hq]
      rfl
  · have := Nat.le_mul_of_pos_right n hz
    simp only [maxLen]; omega
  · show List.take (n * z) (List.toArray _).toList = _
    rw [List.toList_toArray, List.take_of_length_le (by rw [hlen]; exact Nat.le_refl _)]

/-- A literal of byte slices. -/
theorem bag_parts (k : Nat) {T E : TypeId} {n : Nat} {parts : Array (Nat × Operand)} {zero : List Value} {bb : Nat} {vs : List Value} {xs : List (List UInt8)} {d : Tmp} {ty : TypeId} {pos : String} {af : Array Edge} {g : Option (Nat × Bool)}
    (ho : lo[k]? = some ⟨some d, .buildSlice T n parts, ty, pos, af, g⟩) (hw : Region.wanted ⟨some d, .buildSlice T n parts, ty, pos, af, g⟩ (yielded lo.toArray l.toArray) = true) (hs : Sls S vs xs) (hT : SlT P T E) (hE : Ty P E false 1 zero bb)
    (hp : parts.toList.map (fun p => (p.1, evF l p.2)) = (vs.zipIdx.map fun p => (p.2, p.1))) (hn : vs.length = n) (hb : n ≤ 1000) : BagOp P lo S M l k d (isP xs) := by
  refine ⟨⟨_, ho, rfl, rfl, hw, fun S' w hS hst => .inr ?_⟩⟩
  obtain ⟨h1, h2, h3⟩ := (hs.mono hS).rl
  have hfl : (vs.map (·.cells.toList)).flatten = vs := by
    clear hs h1 h2 hp hn
    induction vs with
    | nil => rfl
    | cons v r ih => rw [List.map_cons, List.flatten_cons, ih (fun u hu => h3 u (.tail _ hu)), cells_one (h3 v (.head _))]; rfl
  obtain ⟨v, w', hr, hst'⟩ := run_lit (d := some d) (ty := ty) (pos := pos) (af := af) (g := g) hst hT hE hp hn (fun v hv => cells_size1 (h3 v hv)) hfl (by omega) (by omega)
  obtain ⟨S'', a, b, c⟩ := St.freeze (α := List UInt8) (T := E) (xs := xs) hst' h1 (by omega)
  exact ⟨v, w', S'', hr, a, ⟨c, c.oneCell⟩, b⟩

def BagMono : List BagT → Prop
  | [] => True
  | b :: r => (∀ S S' v, S.Le S' → b.2.2 S v → b.2.2 S' v) ∧ BagMono r
def BagOps (P : Program) (lo : List Oper) (S : Snap) (M : List Chunk) (l : List Value) : List BagT → Prop
  | [] => True
  | b :: r => BagOp P lo S M l b.1 b.2.1 b.2.2 ∧ BagOps P lo S M l r
def BagFacts (S : Snap) (vs : Nat → Value) : List BagT → Prop
  | [] => True
  | b :: r => b.2.2 S (vs b.1) ∧ BagFacts S vs r
theorem BagMono.all : ∀ {bag : List BagT}, BagMono bag → ∀ b ∈ bag, ∀ S S' v, S.Le S' → b.2.2 S v → b.2.2 S' v
  | _ :: _, h, _, .head _ => h.1
  | _ :: _, h, _, .tail _ hb => BagMono.all h.2 _ hb
theorem BagOps.all : ∀ {bag : List BagT}, BagOps P lo S M l bag → ∀ b ∈ bag, BagOp P lo S M l b.1 b.2.1 b.2.2
  | _ :: _, h, _, .head _ => h.1
  | _ :: _, h, _, .tail _ hb => BagOps.all h.2 _ hb
theorem BagFacts.mk : ∀ {bag : List BagT} {S : Snap} {vs : Nat → Value}, (∀ b ∈ bag, b.2.2 S (vs b.1)) → BagFacts S vs bag
  | [], _, _, _ => trivial
  | b :: _, _, _, h => ⟨h b (.head _), BagFacts.mk fun c hc => h c (.tail _ hc)⟩
theorem v_bag' (n : Nat) (bag : List BagT) {f : Nat} {bs : List Bool} {D : List Deferred} (hn : bag.length = n) (hok : bagOk lo n bs (bag.map (·.1)) = true) (h1 : (bag.map (·.1)).Nodup) (h2 : (bag.map (·.2.1)).Nodup) (hsel : Region.noSelect lo.toArray = true) (hap : bagApart lo (bag.map (·.1)) = true)
    (hm : BagMono bag) (ho : BagOps P lo S M l bag) (h : ∀ S' vs, S.Le S' → BagFacts S' vs bag → AnyV P lo Q f S' M (bagMark bag bs) (bagSet bag vs l) D) : AnyV P lo Q (f + n) S M bs l D :=
  v_bag n bag hn hok h1 h2 hsel hap hm.all ho.all fun S' vs hS hf => h S' vs hS (BagFacts.mk hf)
end
end Go.Sl

/- A range over a function whose loop variable lies in a box of its own. General over the program. -/
namespace Go.Sl
set_option linter.unusedSimpArgs false
set_option linter.unusedVariables false
open Go.RowKit
variable {P : Program} {S : Snap} {M : List Chunk} {w : World}
theorem permB (B L : List Chunk) (a : Chunk) (C : List Chunk) : (B ++ (L ++ (a :: C))).Perm (a :: (B ++ (L ++ C))) :=
  (List.Perm.append_left B List.perm_middle).trans List.perm_middle

/-- 'for x := range g { .. }', the body never leaving the loop. -/
theorem s_rangeA {g : Operand} {ps : Array Tmp} {assign body : Code} {Q : Exit → Act → World → Prop} {l : List Value} {D : List Deferred} {gf : FuncId} {lb : List Value} {N : Nat} {ok : Nat → List Value → Prop} (I : Nat → List Chunk) (M0 : List Chunk)
    (hst : St S (I 0 ++ M0) w) (hg : evF l g = .func (.func gf) #[] lb.toArray) (hb : Body P gf) (hit : IterC P S gf lb N ok) (hps : ∀ k vs, ok k vs → vs.length = ps.size) (okA : Nat → Act → List Chunk → Prop)
    (hassign : ∀ (r k : Nat) (vs : List Value) (C : List Chunk) (W : World) (K : Act → World → Prop), k < N → ok k vs → St S (I k ++ C) W → (∀ a' B W', okA k a' B → St S (B ++ (I k ++ C)) W' → K a' W') → assign.wpIn (Fence.wide.inRound r) 0 P (Exit.then K (fun _ _ _ => False)) { tmps := (ps.zip vs.toArray).foldl (fun t (p, v) => t.setIfInBounds p v) l.toArray, defers := [] } W)
    (hbody : ∀ (r k : Nat) (a' : Act) (B : List Chunk) (C : List Chunk) (W : World), k < N → okA k a' B → St S (B ++ (I k ++ C)) W → body.wpIn (Fence.wide.inRound r) 0 P (fun e _ W' => e = .normal ∧ St S (I (k + 1) ++ C) W') a' W)
    (hdone : ∀ (d : Nat) (W : World), St S (.obj d (.deferred (some [])) :: (I N ++ M0)) W → Q .normal ⟨l.toArray, { target := .collected d, args := #[] } :: D⟩ W) :
    (Code.rangeFunc g ps assign body).wp P Q ⟨l.toArray, D⟩ w := by
  refine (wpIn_wide (n := 0)).1 (wpIn_rangeFunc ?_)
  intro fn hfn
  obtain ⟨rec, hrec⟩ : ∃ rec : LoopState → Option Code → Loop, rec = fun st pe => { state := st, pending := pe, fn, tmps := l.toArray, params := ps, assign, body, defers := w.heap.size } := ⟨_, rfl⟩
  obtain ⟨W1, hW1⟩ : ∃ W1, (w.alloc (.deferred (some []))).alloc (.loop (rec .ready none)) = W1 := ⟨_, rfl⟩
  have hst1 : St S (.obj (w.heap.size + 1) (.loop (rec .ready none)) :: .obj w.heap.size (.deferred (some [])) :: (I 0 ++ M0)) W1 := by
    rw [← hW1]
    have := (hst.allocObj (.deferred (some []))).allocObj (.loop (rec .ready none))
    rwa [World.size_alloc] at this
  refine ⟨w.heap.size + 1, [{ target := .collected w.heap.size, args := #[] }], W1, { target := .fn (.func gf) lb.toArray, args := #[.func (.yield (w.heap.size + 1)) #[] #[]] }, W1, gf,
    (.func (.yield (w.heap.size + 1)) #[] #[] :: lb).toArray, W1, ?_, ?_, fun _ _ => trivial, ?_, (fun h => by cases h), ?_⟩
  · rw [← hW1, hrec]; exact run_enterLoop_outer _ _ _ _ _
  · simp only [resolve, evF_eq, hg]
    simp [go_sem, evF]
  · have := hb.enter (w := W1) (.func (.yield (w.heap.size + 1)) #[] #[] :: lb).toArray
    simp only [invoke]
    simpa using this
  · refine callsIn_wide.2 (Calls.mono (hit (w.heap.size + 1) (fun k => .obj (w.heap.size + 1) (.loop (rec .ready none)) :: .obj w.heap.size (.deferred (some [])) :: (I k ++ M0)) ?_ W1 hst1) ?_)
    · intro k hk vs hvs W hW
      have hl : W.heap[w.heap.size + 1]? = some (.loop (rec .ready none)) := hW.at_ _ (.head _)
      have hlen := hps k vs hvs
      have hy := run_yield (P := P) (args := vs.toArray) hl (by rw [hrec]; simpa using hlen)
      rw [hrec] at hy
      refine ⟨fn, _, assign, body, hy, roundIn_wide (n := 0) (roundIn_of_wpIn hfn (hassign _ k vs _ W _ hk hvs (hW.perm (perm2 _ _ _ _)) fun a' B W' hA hst0 => ?_))⟩
      have hst0' := hst0.perm (permB B (I k) _ _)
      have hl' : W'.heap[w.heap.size + 1]? = some (.loop (rec .ready none)) := hst0'.at_ _ (.head _)
      refine ⟨_, run_beginRound hl' (by rw [hrec]), ?_⟩
      have hst2 := (hst0'.putObj (o' := .loop { rec .ready none with state := .busy })).perm (permB B (I k) _ _).symm
      refine wpIn_mono (hbody _ k a' B _ _ hk hA hst2) ?_
      rintro e a3 W3 ⟨rfl, hst3⟩
      have hst4 := hst3.perm (perm2 _ _ _ _).symm
      have hl3 : W3.heap[w.heap.size + 1]? = some (.loop { rec .ready none with state := .busy }) := hst4.at_ _ (.head _)
      have hr := run_endRound (P := P) none hl3
      refine ⟨_, _, hr, rfl, ?_⟩
      have := hst4.putObj (o' := .loop (rec .ready none))
      rw [hrec] at this ⊢
      exact this
    · rintro e W2 ⟨⟨v, rfl⟩, hst2⟩
      have hl : W2.heap[w.heap.size + 1]? = some (.loop (rec .ready none)) := hst2.at_ _ (.head _)
      have hr := run_endLoop (P := P) hl (by rw [hrec]; simp)
      rw [hrec] at hr
      refine ⟨none, _, hr, hdone _ _ ?_⟩
      exact (hst2.putObj (o' := .loop _)).drop

end Go.Sl

/- A range over a function whose loop variable, a struct, lies in a box of its own. General over the program. -/
namespace Go.Sl
set_option linter.unusedSimpArgs false
set_option linter.unusedVariables false
open Go.RowKit
variable {P : Program} {S : Snap} {M : List Chunk} {w : World}
theorem s_rangeB {g : Operand} {p d id : Nat} {T : TypeId} {z : Nat} {zero : List Value} {bb : Nat} {ty1 ty2 : TypeId} {pos1 pos2 : String} {af1 af2 : Array Edge} {body : Code} {Q : Exit → Act → World → Prop} {l : List Value} {D : List Deferred} {gf : FuncId} {lb : List Value} {N : Nat} {ok : Nat → List Value → Prop} (I : Nat → List Chunk) (M0 : List Chunk)
    (hst : St S (I 0 ++ M0) w) (hg : evF l g = .func (.func gf) #[] lb.toArray) (hb : Body P gf) (hit : IterC P S gf lb N ok) (hT : Ty P T true z zero bb) (hps : ∀ k vs, ok k vs → ∃ cs : List Value, vs = [.agg cs.toArray] ∧ cs.length = z ∧ cs.all (·.oneCell') = true) (hp : p < l.length) (hd : d < l.length) (hne : p ≠ d)
    (hbody : ∀ (r k b : Nat) (cs : List Value) (C : List Chunk) (W : World), k < N → ok k [.agg cs.toArray] → St S (.box b cs T :: (I k ++ C)) W → body.wpIn (Fence.wide.inRound r) 0 P (fun e _ W' => e = .normal ∧ St S (I (k + 1) ++ C) W') ⟨((l.set p (.agg cs.toArray)).set d (.pointer (some ⟨b, 0, none⟩))).toArray, []⟩ W)
    (hdone : ∀ (d : Nat) (W : World), St S (.obj d (.deferred (some [])) :: (I N ++ M0)) W → Q .normal ⟨l.toArray, { target := .collected d, args := #[] } :: D⟩ W) :
    (Code.rangeFunc g #[p] (Code.region id #[⟨some d, .alloc T, ty1, pos1, af1, none⟩, ⟨none, .store T (.tmp d) (.tmp p), ty2, pos2, af2, none⟩] false) body).wp P Q ⟨l.toArray, D⟩ w := by
  refine s_rangeA I M0 hst hg hb hit (fun k vs h => by obtain ⟨cs, rfl, _⟩ := hps k vs h; rfl)
    (fun k a' B => ∃ (cs : List Value) (b : Nat), ok k [.agg cs.toArray] ∧ B = [.box b cs T] ∧ a' = ⟨((l.set p (.agg cs.toArray)).set d (.pointer (some ⟨b, 0, none⟩))).toArray, []⟩) ?_ ?_ hdone
  · intro r k vs C W K hk hok hst hK
    obtain ⟨cs, rfl, hl, h1⟩ := hps k vs hok
    have e : ((#[p].zip [Value.agg cs.toArray].toArray).foldl (fun t (x : Tmp × Value) => t.setIfInBounds x.1 x.2) l.toArray) = (l.set p (.agg cs.toArray)).toArray := by simp
    show Code.wpIn _ _ _ _ _ { tmps := (#[p].zip [Value.agg cs.toArray].toArray).foldl (fun t (x : Tmp × Value) => t.setIfInBounds x.1 x.2) l.toArray, defers := [] } W
    rw [e]
    refine regionIn (l := [⟨some d, .alloc T, ty1, pos1, af1, none⟩, ⟨none, .store T (.tmp d) (.tmp p), ty2, pos2, af2, none⟩]) (.inr ⟨r, rfl⟩) ?_ rfl ?_
    · rintro ⟨a, w, h⟩
      exact h
    · refine s_alloc hst hT fun b w' hst' => ?_
      have e1 : nth ((l.set p (Value.agg cs.toArray)).set d (.pointer (some ⟨b, 0, none⟩))) d = .pointer (some ⟨b, 0, none⟩) := by rw [nth_eq]; simp [hd]
      have e2 : nth ((l.set p (Value.agg cs.toArray)).set d (.pointer (some ⟨b, 0, none⟩))) p = .agg cs.toArray := by
        have hne' := Ne.symm hne
        rw [nth_eq]; simp [hp, hne']
      refine s_store hst' (b := b) (off := 0) e1 0 rfl hT e2 (cs := cs) rfl hl h1 (by rw [hT.len_]; omega) fun w2 hst2 => ?_
      refine hK _ [.box b cs T] w2 ⟨cs, b, hok, rfl, rfl⟩ ?_
      have hz : zero.length = z := hT.len_
      have e3 : List.take 0 zero ++ cs ++ List.drop (0 + z) zero = cs := by rw [List.take_zero, List.nil_append, List.drop_of_length_le (by omega), List.append_nil]
      have : St S (.box b (List.take 0 zero ++ cs ++ List.drop (0 + z) zero) T :: (I k ++ C)) w2 := hst2
      rw [e3] at this
      exact this
  · rintro r k a' B C W hk ⟨cs, b, hok, rfl, rfl⟩ hst
    exact hbody r k b cs C W hk hok hst
end Go.Sl
