/- Rules of a small separation logic over the model's worlds: '==' and '!=' on data without pointers. General over the program. -/
import Derived.Test.YtmbdbfdlbbkclaaDoorSlQ
import Derived.DeepKeys
import Derived.Laws.StructEq
namespace Go.Sl
set_option linter.unusedSimpArgs false
set_option linter.unusedVariables false
open Go.RowKit
variable {P : Program}

def lit1 : Value → Lit
  | .bool b => .bool b
  | .int k n => .int k n
  | .string s => .string s.data.toList
  | _ => .bool false

def litCell : Value → Bool
  | .bool _ | .int _ _ | .string _ => true
  | _ => false

theorem lit1_inj {u v : Value} (hu : litCell u = true) (hv : litCell v = true) (h : lit1 u = lit1 v) : u = v := by
  cases u <;> simp [litCell] at hu <;> cases v <;> simp [litCell] at hv <;> simp_all [lit1]
  rename_i a b
  cases a; cases b
  simp_all

theorem map_lit1_inj : ∀ {a b : List Value}, a.all litCell = true → b.all litCell = true → a.map lit1 = b.map lit1 → a = b
  | [], [], _, _, _ => rfl
  | [], _ :: _, _, _, h => by simp at h
  | _ :: _, [], _, _, h => by simp at h
  | u :: a, v :: b, ha, hb, h => by
    simp only [List.all_cons, Bool.and_eq_true] at ha hb
    simp only [List.map_cons, List.cons.injEq] at h
    rw [lit1_inj ha.1 hb.1 h.1, map_lit1_inj ha.2 hb.2 h.2]

/-- Data whose cells say it all, and the cells the data. -/
class Key (P : Program) (T : TypeId) (α : Type) [Rep α] (d : outParam Nat) : Prop where
  key : ∀ {S : Snap} {cs : List Value} {x : α} (D : Nat), d ≤ D → Rep.R S cs x → P.keyLits D T cs = some (cs.map lit1)
  flat : ∀ {S S' : Snap} {cs cs' : List Value} {x : α}, Rep.R S cs x → Rep.R S' cs' x → cs = cs'
  inj : ∀ {S S' : Snap} {cs : List Value} {x y : α}, Rep.R S cs x → Rep.R S' cs y → x = y
  lits : ∀ {S : Snap} {cs : List Value} {x : α}, Rep.R S cs x → cs.all litCell = true

theorem Key.iff {T : TypeId} {α : Type} [Rep α] {d : Nat} (k : Key P T α d) {S S' : Snap} {cs cs' : List Value} {x y : α} (h : Rep.R S cs x) (h' : Rep.R S' cs' y) : cs.map lit1 = cs'.map lit1 ↔ x = y := by
  constructor
  · intro e
    obtain rfl := map_lit1_inj (k.lits h) (k.lits h') e
    exact k.inj h h'
  · rintro rfl
    rw [k.flat h h']

theorem key_int {T : TypeId} (hu : P.underlying T = some (.int .i64)) : Key P T Int 1 where
  key D hd h := by
    obtain ⟨D, rfl⟩ : ∃ q, D = q + 1 := ⟨D - 1, by omega⟩
    obtain ⟨rfl, hi⟩ := h
    have : (Lit.int .i64 _).wf = true := WalkArith.wf_i64 hi
    simp [Program.keyLits, hu, lit1, this]
  flat h h' := by rw [h.1, h'.1]
  inj h h' := by have := h.1.symm.trans h'.1; simpa using this
  lits h := by rw [h.1]; rfl

theorem key_u8 {T : TypeId} (hu : P.underlying T = some (.int .u8)) : Key P T UInt8 1 where
  key D hd h := by
    obtain ⟨D, rfl⟩ : ∃ q, D = q + 1 := ⟨D - 1, by omega⟩
    rename_i S cs x
    obtain rfl : cs = [.int .u8 x.toNat] := h
    have hx := x.toNat_lt
    have : (Lit.int .u8 (x.toNat : Int)).wf = true := by simp [Lit.wf, IntKind.min, IntKind.max, IntKind.signed, IntKind.bits]; omega
    simp [Program.keyLits, hu, lit1, this]
  flat h h' := by rw [show _ = _ from h, show _ = _ from h']
  inj h h' := by
    have := (show _ = _ from h).symm.trans h'
    simp only [List.cons.injEq, Value.int.injEq, true_and, and_true] at this
    exact UInt8.toNat_inj.1 (by omega)
  lits h := by rw [show _ = _ from h]; rfl

theorem key_bool {T : TypeId} (hu : P.underlying T = some .bool) : Key P T Bool 1 where
  key D hd h := by
    obtain ⟨D, rfl⟩ : ∃ q, D = q + 1 := ⟨D - 1, by omega⟩
    rw [show _ = _ from h]
    simp [Program.keyLits, hu, lit1]
  flat h h' := by rw [show _ = _ from h, show _ = _ from h']
  inj h h' := by have := (show _ = _ from h).symm.trans h'; simpa using this
  lits h := by rw [show _ = _ from h]; rfl

theorem key_str {T : TypeId} (hu : P.underlying T = some .string) : Key P T Str 1 where
  key D hd h := by
    obtain ⟨D, rfl⟩ : ∃ q, D = q + 1 := ⟨D - 1, by omega⟩
    obtain ⟨rfl, hl⟩ := h
    simp [Program.keyLits, hu, lit1, ByteArray.size, hl]
  flat h h' := by rw [h.1, h'.1]
  inj h h' := by
    rename_i x y
    have := h.1.symm.trans h'.1
    simp at this
    cases x; cases y; simp_all
  lits h := by rw [h.1]; rfl

section
variable {α β : Type} [Rep α] [Rep β]

theorem RL.flat {S S' : Snap} {cs cs' : List Value} {xs : List α} (hf : ∀ {cs cs' : List Value} {x : α}, Rep.R S cs x → Rep.R S' cs' x → cs = cs') (h : RL S cs xs) (h' : RL S' cs' xs) : cs = cs' := by
  have hl : cs.length = cs'.length := by rw [h.1, h'.1]
  apply List.ext_getElem hl
  intro j hj hj'
  have hz : 0 < Rep.z α := by
    rcases Nat.eq_zero_or_pos (Rep.z α) with e | e
    · have := h.1; rw [e] at this; simp at this; subst this; simp at hj
    · exact e
  have hi : j / Rep.z α < xs.length := by rw [Nat.div_lt_iff_lt_mul hz, ← h.1]; exact hj
  have e := hf (h.at_ _ hi) (h'.at_ _ hi)
  have := congrArg (·[j % Rep.z α]?) e
  simp only [List.getElem?_take, Nat.mod_lt _ hz, if_true, List.getElem?_drop, Nat.div_add_mod'] at this
  rw [List.getElem?_eq_getElem hj, List.getElem?_eq_getElem hj'] at this
  exact Option.some.inj this

theorem RL.inj {S S' : Snap} {cs : List Value} {xs ys : List α} (hf : ∀ {cs : List Value} {x y : α}, Rep.R S cs x → Rep.R S' cs y → x = y) (hz : 0 < Rep.z α) (h : RL S cs xs) (h' : RL S' cs ys) : xs = ys := by
  have hl : xs.length = ys.length := Nat.eq_of_mul_eq_mul_right hz (h.1.symm.trans h'.1)
  apply List.ext_getElem hl
  intro j hj hj'
  exact hf (h.at_ j hj) (h'.at_ j hj')

theorem RL.lits {S : Snap} {cs : List Value} {xs : List α} (hf : ∀ {cs : List Value} {x : α}, Rep.R S cs x → cs.all litCell = true) (h : RL S cs xs) : cs.all litCell = true := by
  rw [List.all_eq_true]
  intro u hu
  obtain ⟨j, hj, rfl⟩ := List.mem_iff_getElem.1 hu
  have hz : 0 < Rep.z α := by
    rcases Nat.eq_zero_or_pos (Rep.z α) with e | e
    · have := h.1; rw [e] at this; simp at this; subst this; simp at hj
    · exact e
  have hi : j / Rep.z α < xs.length := by rw [Nat.div_lt_iff_lt_mul hz, ← h.1]; exact hj
  have := List.all_eq_true.1 (hf (h.at_ _ hi)) cs[j] (List.mem_iff_getElem?.2 ⟨j % Rep.z α, by
    rw [List.getElem?_take, if_pos (Nat.mod_lt _ hz), List.getElem?_drop, Nat.div_add_mod', List.getElem?_eq_getElem hj]⟩)
  exact this

theorem chunks (z : Nat) : ∀ (n : Nat) (cs : List Value), cs.length = n * z → ((List.range n).map fun i => (cs.drop (i * z)).take z).flatten = cs
  | 0, cs, h => by simp at h; subst h; simp
  | n + 1, cs, h => by
    rw [Nat.succ_mul] at h
    rw [List.range_succ_eq_map, List.map_cons, List.flatten_cons, List.map_map]
    have ih := chunks z n (cs.drop z) (by simp; omega)
    have e : ((fun i => (cs.drop (i * z)).take z) ∘ Nat.succ) = fun i => ((cs.drop z).drop (i * z)).take z := by
      funext i
      simp only [Function.comp_apply, List.drop_drop, Nat.succ_mul]
      rw [Nat.add_comm]
    rw [e, ih]
    simp

theorem mapM_some {γ δ : Type} {f : γ → Option δ} {g : γ → δ} : ∀ {l : List γ}, (∀ i ∈ l, f i = some (g i)) → l.mapM f = some (l.map g)
  | [], _ => by simp
  | a :: l, h => by
    rw [List.mapM_cons, h a (.head _), mapM_some (l := l) (fun i hi => h i (.tail _ hi))]
    rfl

theorem key_cells {T E : TypeId} {n d : Nat} (hT : ArrT P T n E) (hz : P.cellsOf E = Rep.z α) (hz' : P.cellsOf T = n * Rep.z α) (k : Key P E α d) {S : Snap} {cs : List Value} {xs : List α} (hl : xs.length = n) (h : RL S cs xs) (D : Nat) (hD : d + 1 ≤ D) :
    P.keyLits D T cs = some (cs.map lit1) := by
  obtain ⟨D, rfl⟩ : ∃ q, D = q + 1 := ⟨D - 1, by omega⟩
  subst hl
  have hm : (List.range xs.length).mapM (fun i => P.keyLits D E ((cs.drop (i * Rep.z α)).take (Rep.z α))) = some ((List.range xs.length).map fun i => ((cs.drop (i * Rep.z α)).take (Rep.z α)).map lit1) :=
    mapM_some fun i hi => k.key D (by omega) (h.at_ i (List.mem_range.1 hi))
  have hc := chunks (Rep.z α) xs.length cs h.1
  simp only [Program.keyLits, hT.u, hz, h.1, hz', if_true, hm, Option.map_some]
  congr 1
  rw [show (fun i => ((cs.drop (i * Rep.z α)).take (Rep.z α)).map lit1) = List.map lit1 ∘ (fun i => (cs.drop (i * Rep.z α)).take (Rep.z α)) from rfl, ← List.map_map, ← List.map_flatten, hc]

theorem key_arr {T E : TypeId} {n d : Nat} (hT : ArrT P T n E) (hz : P.cellsOf E = Rep.z α) (hz' : P.cellsOf T = n * Rep.z α) (hp : 0 < Rep.z α) [k : Key P E α d] : Key P T (Arr α n) (d + 1) where
  key D hD h := key_cells hT hz hz' k h.1 h.2 D hD
  flat h h' := RL.flat (fun a b => k.flat a b) h.2 h'.2
  inj {S S' cs x y} h h' := by
    have := RL.inj (fun a b => k.inj a b) hp h.2 h'.2
    cases x; cases y; simp_all
  lits h := RL.lits (fun a => k.lits a) h.2

theorem pair_RL {S : Snap} {cs : List Value} {x : α × α} (h : Rep.R S cs x) : RL S cs [x.1, x.2] := by
  obtain ⟨hl, h1, h2⟩ := h
  have := RL.append (RL.one_mk h1) (RL.one_mk h2)
  rwa [List.take_append_drop] at this

theorem key_pair {T E : TypeId} {d : Nat} (hT : ArrT P T 2 E) (hz : P.cellsOf E = Rep.z α) (hz' : P.cellsOf T = 2 * Rep.z α) (hp : 0 < Rep.z α) [k : Key P E α d] : Key P T (α × α) (d + 1) where
  key D hD h := key_cells hT hz hz' k rfl (pair_RL h) D hD
  flat h h' := RL.flat (fun a b => k.flat a b) (pair_RL h) (pair_RL h')
  inj {S S' cs x y} h h' := by
    have := RL.inj (fun a b => k.inj a b) hp (pair_RL h) (pair_RL h')
    cases x; cases y; simp_all
  lits h := RL.lits (fun a => k.lits a) (pair_RL h)

/-- Structs: the fields fs, the first at off, as the nested product β. -/
class KeyFs (P : Program) (fs : List Field) (off : Nat) (β : Type) [Rep β] (d : outParam Nat) : Prop where
  key : ∀ {S : Snap} {cs : List Value} {y : β} (D : Nat), d ≤ D → cs.length = off + Rep.z β → Rep.R S (cs.drop off) y →
    ∃ ls, fs.mapM (fun f => P.keyLits D f.type ((cs.drop f.offset).take (P.cellsOf f.type))) = some ls ∧ ls.flatten = (cs.drop off).map lit1
  flat : ∀ {S S' : Snap} {cs cs' : List Value} {x : β}, Rep.R S cs x → Rep.R S' cs' x → cs = cs'
  inj : ∀ {S S' : Snap} {cs : List Value} {x y : β}, Rep.R S cs x → Rep.R S' cs y → x = y
  lits : ∀ {S : Snap} {cs : List Value} {x : β}, Rep.R S cs x → cs.all litCell = true

theorem keyFs_nil {off : Nat} : KeyFs P [] off Unit 0 where
  key D _ hl h := ⟨[], by simp, by have e : List.drop off _ = [] := h; rw [e]; rfl⟩
  flat h h' := by rw [show _ = _ from h, show _ = _ from h']
  inj _ _ := rfl
  lits h := by rw [show _ = _ from h]; rfl

theorem keyFs_cons {f : Field} {fs : List Field} {off d d' : Nat} (ho : f.offset = off) (hz : P.cellsOf f.type = Rep.z α) [ka : Key P f.type α d] [kb : KeyFs P fs (off + Rep.z α) β d'] : KeyFs P (f :: fs) off (α × β) (max d d') where
  key {S cs y} D hD hl h := by
    subst ho
    have hzz : Rep.z (α × β) = Rep.z α + Rep.z β := rfl
    obtain ⟨ls, h1, h2⟩ := kb.key (S := S) (cs := cs) (y := y.2) D (by omega) (by omega) (by have := h.2.2; rwa [List.drop_drop] at this)
    refine ⟨((cs.drop f.offset).take (Rep.z α)).map lit1 :: ls, ?_, ?_⟩
    · rw [List.mapM_cons, hz, ka.key D (by omega) h.2.1, h1]; rfl
    · rw [List.flatten_cons, h2, ← List.map_append, ← List.drop_drop, List.take_append_drop]
  flat {S S' cs cs' x} h h' := by
    rw [← List.take_append_drop (Rep.z α) cs, ← List.take_append_drop (Rep.z α) cs', ka.flat h.2.1 h'.2.1, kb.flat h.2.2 h'.2.2]
  inj {S S' cs x y} h h' := Prod.ext (ka.inj h.2.1 h'.2.1) (kb.inj h.2.2 h'.2.2)
  lits {S cs x} h := by
    rw [← List.take_append_drop (Rep.z α) cs, List.all_append, ka.lits h.2.1, kb.lits h.2.2]; rfl

theorem key_struct {T : TypeId} {fs : Array Field} {d : Nat} (hT : P.underlying T = some (.struct fs)) (hz : P.cellsOf T = Rep.z α) (hn : fs.all (·.name != "_") = true) (k : KeyFs P fs.toList 0 α d) : Key P T α (d + 1) where
  key {S cs x} D hD h := by
    obtain ⟨D, rfl⟩ : ∃ q, D = q + 1 := ⟨D - 1, by omega⟩
    obtain ⟨ls, h1, h2⟩ := k.key (S := S) (cs := cs) (y := x) D (by omega) (by rw [Rep.len h]; omega) (by simpa using h)
    simp only [Program.keyLits, hT, hz, Rep.len h, hn, and_self, if_true, h1, Option.map_some, h2, List.drop_zero]
  flat h h' := k.flat h h'
  inj h h' := k.inj h h'
  lits h := k.lits h

theorem r_pair {S : Snap} {a b : Int} (ha : I64 a) (hb : I64 b) : Rep.R S [.int .i64 a, .int .i64 b] (a, b) := ⟨rfl, ⟨rfl, ha⟩, ⟨rfl, hb⟩⟩

/-- '==' is asked of this type. -/
class EqTy (P : Program) (T : TypeId) : Prop where
  k : P.keyTypeAt 20 T = true
  g : P.eqGuardType P.depth T = false
  a : (P.underlying T).map (fun d => match d with | .struct _ | .array _ _ => true | _ => false) = some true

variable {l : List Value} {S : Snap} {M : List Chunk}

theorem run_eq {T : TypeId} {d : Nat} (hE : EqTy P T) (hz : P.cellsOf T = Rep.z α) (k : Key P T α d) [DecidableEq α] {S S' : Snap} {cs cs' : List Value} {x y : α} (h : Rep.R S cs x) (h' : Rep.R S' cs' y) (w : World) :
    (Op.equalIn 10000 T (.agg cs.toArray) (.agg cs'.toArray)).run P w = .ok (decide (x = y)) w := by
  have ha := hE.a
  have hform : ∀ q : List Value, q.length = Rep.z α → (Value.agg q.toArray).formed P T = true := by
    intro q hq
    cases hu : P.underlying T with
    | none => simp [hu] at ha
    | some dd => rw [hu] at ha; cases dd <;> simp_all [Value.formed]
  obtain ⟨r, hr, hiff⟩ := run_equalIn_deep (P := P) 9980 20 T hE.k w d d _ _ _ _ (hform cs (Rep.len h)) (hform cs' (Rep.len h')) (by simpa [Value.cells] using k.key d (Nat.le_refl _) h) (by simpa [Value.cells] using k.key d (Nat.le_refl _) h')
  rw [hr]
  congr 1
  rw [k.iff h h'] at hiff
  by_cases e : x = y
  · rw [decide_eq_true e, hiff.2 e]
  · rw [decide_eq_false e]; cases r <;> simp_all

theorem qt_eqlK {T U : TypeId} {d : Nat} {a b : Operand} {agg : Bool} {zero : List Value} {bb : Nat} {cs cs' : List Value} {x y : α} (ha : evF l a = .agg cs.toArray) (hb : evF l b = .agg cs'.toArray) (h : Rep.R S cs x) (h' : Rep.R S cs' y) (hT : Ty P T agg (Rep.z α) zero bb) (hE : EqTy P T) (k : Key P T α d) [DecidableEq α] :
    Qt P l (.binOp .eql T a b U) S M (.bool (decide (x = y))) := fun dst ty pos af w _ => by
  have := run_eq hE (cellsOf_ty hT) k h h' w
  simp [execOp, ha, hb, run_eqGuard_agg _ _ _ _ _ _ _ hE.g, run_eql_struct, this]

theorem qt_neqK {T U : TypeId} {d : Nat} {a b : Operand} {agg : Bool} {zero : List Value} {bb : Nat} {cs cs' : List Value} {x y : α} (ha : evF l a = .agg cs.toArray) (hb : evF l b = .agg cs'.toArray) (h : Rep.R S cs x) (h' : Rep.R S cs' y) (hT : Ty P T agg (Rep.z α) zero bb) (hE : EqTy P T) (k : Key P T α d) [DecidableEq α] :
    Qt P l (.binOp .neq T a b U) S M (.bool (!decide (x = y))) := fun dst ty pos af w _ => by
  have := run_eq hE (cellsOf_ty hT) k h h' w
  simp [execOp, ha, hb, run_eqGuard_agg _ _ _ _ _ _ _ hE.g, run_neq_struct, this]
end
end Go.Sl
