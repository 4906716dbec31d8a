/- More of the rules: what was first proved for one package and serves all. General over the program. -/
import Derived.Test.YtmbdbfdlbbkclaaDoorSlI
import Derived.Test.YtmbdbfdlbbkclaaDoorSlV
import Derived.Test.YtmbdbfdlbbkclaaDoorSlK
import Derived.Test.YtmbdbfdlbbkclaaDoorSlT
import Derived.Deep.LoopGhost
namespace Go.Sl
set_option linter.unusedSimpArgs false
set_option linter.unusedVariables false
open Go.RowKit

theorem cells_one {v : Value} (h : v.oneCell' = true) : v.cells.toList = [v] := by
  cases v <;> first | rfl | simp [Value.oneCell'] at h

theorem s_st1 {P : Program} {ops : Array Oper} {rest : List Oper} {Q : Exit → Act → World → Prop} {l : List Value} {D : List Deferred} {w : World} {ty : TypeId} {pos : String} {af : Array Edge} {S : Snap} {M : List Chunk}
    {T B : TypeId} {x y : Operand} {zero c : List Value} {bb b off k : Nat} {v : Value} (hst : St S M w) (hx : evF l x = .pointer (some ⟨b, off, none⟩)) (hk : M[k]? = some (.box b c B))
    (hy : evF l y = v) (h1 : v.oneCell' = true) (hT : Ty P T false 1 zero bb) (hf : off + 1 ≤ c.length)
    (h : ∀ w', St S (M.set k (.box b (c.take off ++ [v] ++ c.drop (off + 1)) B)) w' → wpList P ops Q rest ⟨l.toArray, D⟩ w') :
    wpList P ops Q (⟨none, .store T x y, ty, pos, af, none⟩ :: rest) ⟨l.toArray, D⟩ w :=
  s_store hst hx k hk hT hy (cells_one h1) rfl (by simp [h1]) hf h

theorem sl_one {S : Snap} {M : List Chunk} {w : World} {v : Value} {T : TypeId} {z n : Nat} {c : List Value} (h : St S (.sl v T z n c :: M) w) : v.oneCell' = true := by
  rcases (h.get (k := 0) rfl).2 with ⟨rfl, _⟩ | ⟨g, cap, cur, fz, rfl, _⟩ <;> rfl
theorem sl_form {S : Snap} {M : List Chunk} {w : World} {v : Value} {T : TypeId} {z n : Nat} {c : List Value} (h : St S (.sl v T z n c :: M) w) : ∃ a k c', v = .slice a k c' := by
  rcases (h.get (k := 0) rfl).2 with ⟨rfl, _⟩ | ⟨g, cap, cur, fz, rfl, _⟩ <;> exact ⟨_, _, _, rfl⟩

theorem prod_cells {α β : Type} [Rep α] [Rep β] {S : Snap} {cs : List Value} {x : α} {y : β} (h : Rep.R S cs (x, y)) : ∃ c1 c2, cs = c1 ++ c2 ∧ Rep.R S c1 x ∧ Rep.R S c2 y :=
  ⟨_, _, (List.take_append_drop (Rep.z α) cs).symm, h.2.1, h.2.2⟩

theorem St.weaken {S S' : Snap} {M : List Chunk} {w : World} (h : S.Le S') (g : St S' M w) : St S M w := by
  refine ⟨?_, ?_, ?_, fun b o e => g.has b o (h.blk b o e), g.at_, fun d hd b hb => ?_, g.apart⟩
  · first | exact g.os.trans h.os.symm | exact g.os.trans h.os | (rw [h.os]; exact g.os)
  · first | exact g.tape.trans h.tape.symm | exact g.tape.trans h.tape | (rw [h.tape]; exact g.tape)
  · first | exact g.output.trans h.output.symm | exact g.output.trans h.output | (rw [h.output]; exact g.output)
  · have := g.out d hd b hb
    cases e : S.blk b with
    | none => rfl
    | some o => rw [h.blk b o e] at this; cases this
theorem St.swap {S : Snap} {a b : Chunk} {M : List Chunk} {w : World} (h : St S (a :: b :: M) w) : St S (b :: a :: M) w := h.perm (List.Perm.swap _ _ _)

theorem Rets.eq {P : Program} {f : FuncId} {args : List Value} {w : World} {S : Snap} {M : List Chunk} {b c : Bool} (h : Rets P f args w fun v w' => v = .bool b ∧ St S M w') (e : b = c) :
    Rets P f args w fun v w' => v = .bool c ∧ St S M w' := e ▸ h

theorem cF_snoc {α : Type} (f : α → List Value) (xs : List α) (x : α) : cF f (xs ++ [x]) = cF f xs ++ f x := by simp [cF]
theorem rep_cF {α : Type} (f : α → List Value) (x : α) (n : Nat) : (List.replicate n (f x)).flatten = cF f (List.replicate n x) := by simp [cF]

theorem rl_ints_mk {S : Snap} {xs : List Int} (h : ∀ x ∈ xs, I64 x) : RL S (cF intC xs) xs := by
  refine ⟨cF_len (f := intC) (z := 1) (fun _ => rfl) xs, fun i x hx => ?_⟩
  obtain ⟨hi, rfl⟩ := List.getElem?_eq_some_iff.1 hx
  have := cF_get (f := intC) (z := 1) (fun _ => rfl) xs i hi
  show Rep.R S (((cF intC xs).drop (i * 1)).take 1) _
  rw [this]
  exact ⟨rfl, h _ (List.getElem_mem hi)⟩
theorem lit_ints {S : Snap} {M : List Chunk} {w : World} {v : Value} {n : Nat} {c : List Value} {T : TypeId} (xs : List Int) (h : St S (.sl v T 1 n c :: M) w) (hc : c = cF intC xs) (hx : ∀ x ∈ xs, I64 x) (hn : n = xs.length) : ∃ S', S.Le S' ∧ St S' M w ∧ RSl S' v xs := by
  subst hc
  exact St.freeze (α := Int) h (rl_ints_mk hx) hn

theorem rl_u8 {S : Snap} (xs : List UInt8) : RL S (u8s xs) xs := by
  refine ⟨by simp [u8s, Rep.z], fun i x hx => ?_⟩
  obtain ⟨hi, rfl⟩ := List.getElem?_eq_some_iff.1 hx
  show ((u8s xs).drop (i * 1)).take 1 = [Value.int .u8 ((xs[i]).toNat : Int)]
  rw [Nat.mul_one, List.take_one, List.head?_drop]
  simp [u8s, List.getElem?_eq_getElem hi]
theorem lit_u8 {S : Snap} {M : List Chunk} {w : World} {v : Value} {n : Nat} {c : List Value} {T : TypeId} (xs : List UInt8) (h : St S (.sl v T 1 n c :: M) w) (hc : c = u8s xs) (hn : n = xs.length) : ∃ S', S.Le S' ∧ St S' M w ∧ RSl S' v xs := by
  subst hc
  exact St.freeze (α := UInt8) h (rl_u8 xs) hn
theorem u8s_snoc (xs : List UInt8) (x : UInt8) : u8s (xs ++ [x]) = u8s xs ++ [.int .u8 (x.toNat : Int)] := by simp [u8s]
theorem u8s_append (xs ys : List UInt8) : u8s (xs ++ ys) = u8s xs ++ u8s ys := by simp [u8s]

theorem rsl_i64 {S : Snap} {v : Value} {xs : List Int} (h : RSl S v xs) : ∀ x ∈ xs, I64 x := by
  intro x hx
  obtain ⟨i, hi, rfl⟩ := List.mem_iff_getElem.1 hx
  rcases h with ⟨ad, cap, _, h, _⟩ | ⟨b, o, cap, c, T, fz, _, _, _, _, h⟩
  · subst h; simp at hi
  · exact (h.at_ i hi).2

theorem bool_yes {p : Prop} [Decidable p] (h : p) : Value.bool true = .bool (decide p) := by rw [decide_eq_true h]
theorem bool_no {p : Prop} [Decidable p] (h : ¬ p) : Value.bool false = .bool (decide p) := by rw [decide_eq_false h]
theorem take_succ_eq {α : Type} {a b : List α} {k : Nat} (h : a.take k = b.take k) (ha : k < a.length) (hb : k < b.length) : a.take (k + 1) = b.take (k + 1) ↔ a[k] = b[k] := by
  constructor
  · intro e
    have := congrArg (·[k]?) e
    simpa [List.getElem?_take, ha, hb] using this
  · intro e
    apply List.ext_getElem?
    intro j
    have hj := congrArg (·[j]?) h
    simp only [List.getElem?_take] at hj ⊢
    by_cases h1 : j < k
    · simpa [h1, Nat.lt_succ_of_lt h1] using hj
    · by_cases h2 : j = k
      · subst h2; simp [ha, hb, e]
      · simp [show ¬ j < k + 1 from by omega]
end Go.Sl
