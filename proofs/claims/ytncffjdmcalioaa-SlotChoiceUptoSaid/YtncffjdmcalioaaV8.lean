/- Package wire: the contracts once more, what is made taken as data. -/
import Derived.Test.YtncffjdmcalioaaV7
--@opt
namespace Go.Proofs.Ytncffjdmcalioaa
set_option linter.unusedSimpArgs false
set_option linter.unusedVariables false
open Go.RowKit Go.Sl

theorem RL_cons {α : Type} [Rep α] {S : Snap} {c cs : List Value} {x : α} {xs : List α} (h : Rep.R S c x) (hs : RL S cs xs) : RL S (c ++ cs) (x :: xs) := by
  have hl := Rep.len h
  refine ⟨by rw [List.length_append, hl, hs.1, List.length_cons, Nat.succ_mul]; omega, fun i y hy => ?_⟩
  cases i with
  | zero =>
    obtain rfl : x = y := by simpa using hy
    rw [Nat.zero_mul, List.drop_zero, ← hl, List.take_left]; exact h
  | succ i =>
    have := hs.2 i y (by simpa using hy)
    rw [show (i + 1) * Rep.z α = c.length + i * Rep.z α by rw [hl, Nat.succ_mul]; omega, List.drop_append, List.drop_eq_nil_of_le (by omega), List.nil_append, Nat.add_sub_cancel_left]
    exact this

theorem rl_digs {S : Snap} : ∀ {xs : List Dg}, (∀ d ∈ xs, d.l.length = 16) → RL S (cF dgC xs) xs
  | [], _ => RL.nil
  | d :: xs, h => by
    have := rl_digs (S := S) (xs := xs) fun e he => h e (.tail _ he)
    have hd : Rep.R S (u8s d.l) d := ⟨h d (.head _), rl_u8 d.l⟩
    have e : cF dgC (d :: xs) = u8s d.l ++ cF dgC xs := by simp [cF, dgC]
    rw [e]
    exact RL_cons hd this

theorem chunks_16 : ∀ {n : Nat} {r : List UInt8}, 16 * n ≤ r.length → ∀ d ∈ chunks n r, d.l.length = 16
  | 0, _, _, d, hd => by cases hd
  | n + 1, r, h, d, hd => by
    rcases List.mem_cons.1 hd with rfl | hd
    · simp only [List.length_take]; omega
    · exact chunks_16 (by rw [List.length_drop]; omega) d hd
theorem getDg_16 (b : List UInt8) : ∀ d ∈ (getDg b).1, d.l.length = 16 := by
  have hsp := countP_spec (s := 16) (b := b) (by omega)
  unfold getDg
  split
  · intro d hd; cases hd
  · rename_i h
    have h0 : (countP 16 b).2.2 = 0 := by simpa using h
    rcases hsp with ⟨_, h1, h2⟩ | h1 | h1
    · exact chunks_16 (by rw [List.length_drop]; omega)
    · omega
    · omega
theorem getLF_i64 : ∀ (m : Nat) (b : List UInt8) (a : Nat) (out : List Int), (∀ x ∈ out, I64 x) → ∀ x ∈ (getLF m b a out).1, I64 x
  | 0, _, _, _, h => h
  | m + 1, b, a, out, h => by
    unfold getLF
    split
    · intro x hx; cases hx
    · refine getLF_i64 m b _ _ fun x hx => ?_
      rcases List.mem_append.1 hx with hx | hx
      · exact h x hx
      · obtain rfl := List.mem_singleton.1 hx
        exact (getI_spec _).2.1
theorem getL_i64 (b : List UInt8) : ∀ x ∈ (getL b).1, I64 x := by
  unfold getL
  split
  · intro x hx; cases hx
  · exact getLF_i64 _ _ _ _ fun x hx => by cases hx

abbrev Fz (α : Type) [Rep α] (S : Snap) (M : List Chunk) (xs : List α) (v : Value) (w : World) : Prop := ∃ S', S.Le S' ∧ RSl S' v xs ∧ v.oneCell' = true ∧ St S' M w

theorem fz_u8 {S : Snap} {M : List Chunk} {v : Value} {w : World} {T : TypeId} {b : List UInt8} (h : St S (.sl v T 1 b.length (u8s b) :: M) w) : Fz UInt8 S M b v w := by
  have h1 := sl_one h
  obtain ⟨S', a, c, d⟩ := lit_u8 b h rfl rfl
  exact ⟨S', a, d, h1, c⟩

theorem int_f {S M} (w : World) (hst : St S M w) (n : Int) (hn : I64 n) : Rets Try.prog 56 [.int .i64 n] w fun v w' => Fz UInt8 S M (encI n) v w' :=
  Rets.mono (int_c w hst n hn) fun _ _ h => fz_u8 h
theorem encInts_f {S M} (w : World) (hst : St S M w) (vl : Value) (xs : List Int) (hl : RSl S vl xs) (hm : xs.length ≤ 1048576) : Rets Try.prog 50 [vl] w fun v w' => Fz UInt8 S M (encL xs) v w' :=
  Rets.mono (encInts_c w hst vl xs hl hm) fun _ _ h => fz_u8 h
theorem getInts_f {S M} (w : World) (hst : St S M w) (vb : Value) (b : List UInt8) (hb : RSl S vb b) (hm : b.length ≤ 1048576) {out : List Int} {a e : Nat} (h : getL b = (out, a, e)) :
    Rets Try.prog 48 [vb] w fun v w' => ∃ u, v = .tuple #[u, .int .i64 (a : Nat), .int .i64 (e : Nat)] ∧ Fz Int S M out u w' :=
  Rets.mono (getInts_c w hst vb b hb hm) fun v w' hp => by
    have hi := getL_i64 b
    rw [h] at hp hi
    obtain ⟨u, rfl, hst⟩ := hp
    have h1 := sl_one hst
    obtain ⟨S', x, y, z⟩ := lit_ints out hst rfl hi rfl
    exact ⟨u, rfl, S', x, z, h1, y⟩
theorem getInt_f {S M} (w : World) (hst : St S M w) (vb : Value) (b : List UInt8) (hb : RSl S vb b) (hm : b.length ≤ 1048576) {n : Int} {a e : Nat} (h : getI b = (n, a, e)) :
    Rets Try.prog 58 [vb] w fun v w' => v = .tuple #[.int .i64 n, .int .i64 (a : Nat), .int .i64 (e : Nat)] ∧ St S M w' :=
  Rets.mono (getInt_c w hst vb b hb hm) fun v w' hp => by rw [h] at hp; exact hp
end Go.Proofs.Ytncffjdmcalioaa
