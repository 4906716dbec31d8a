/- Package vm: plain mathematics: arithmetic, loops, the examples of the sanity function. -/
import Derived.Test.YtmbdbfdlbbkclaaDoorUB
namespace Go.Proofs.YtmbdbfdlbbkclaaDoor
set_option linter.unusedSimpArgs false
set_option linter.unusedVariables false
open Go.RowKit Go.Sl

abbrev insD (op a b : Int) : InsD := (op, a, b, ())
abbrev arithC : CodeD := ([4, 5, 6, 7, 8, 9, 10].flatMap (fun op => [insD 2 0 0, insD 2 1 0, insD op 0 0, insD 14 0 0]) ++ [insD 2 0 0, insD 11 0 0, insD 14 0 0, insD 16 0 0], 2, 0, ())
def arithN (a b : Int) : List Int := [wrapV (a + b), wrapV (a - b), wrapV (a * b), truthV (decide (a < b)), truthV (decide (a = b)), truthV (decide (a ≠ 0) && decide (b ≠ 0)), truthV (decide (a ≠ 0) || decide (b ≠ 0)), truthV (decide (a = 0))]
theorem vm_arith {a b : Int} (ha : inR a) (hb : inR b) : vmM arithC [a, b] [] = (([], arithN a b, 0, 32, ()), 0) := by
  have hv : validV arithC [a, b] = true := by
    unfold validV inR at *
    simp [arithC]
    omega
  unfold vmM
  rw [if_pos hv]
  have h : runV arithC [] 3001 (startV arithC [a, b]) = .ok ⟨32, [a, b], [], 0, [], arithN a b, 0, 32, true⟩ := by kernel_rfl
  rw [h]
  rfl

abbrev loopC : CodeD := ([insD 1 9 0, insD 14 0 0, insD 17 0 0, insD 15 5 0], 1, 0, ())
def loopS (k : Int) (l : List Int) (n : Nat) : VS := ⟨0, [k], [], 0, [], l, 0, n, false⟩
theorem loop_1 {k : Int} {l : List Int} {n : Nat} (h : n < 3000) : stepV loopC [] (loopS k l n) = .ok ⟨1, [k], [9], 0, [], l, 0, n + 1, false⟩ := by
  unfold stepV; rw [if_pos (by exact h)]; rfl
theorem loop_2 {k : Int} {l : List Int} {n : Nat} (h : n < 3000) : stepV loopC [] ⟨1, [k], [9], 0, [], l, 0, n, false⟩ = .ok ⟨2, [k], [], 0, [], l ++ [9], 0, n + 1, false⟩ := by
  unfold stepV; rw [if_pos (by exact h)]; rfl
theorem loop_3 {k : Int} {l : List Int} {n : Nat} (h : n < 3000) : stepV loopC [] ⟨2, [k], [], 0, [], l, 0, n, false⟩ = .ok ⟨if 0 < loopV k then 0 else 3, [loopV k], [], 0, [], l, 0, n + 1, false⟩ := by
  unfold stepV; rw [if_pos (by exact h)]; rfl
theorem loop_4 {k : Int} {l : List Int} {n : Nat} (h : n < 3000) : stepV loopC [] ⟨3, [k], [], 0, [], l, 0, n, false⟩ = .ok ⟨4, [k], [], 0, [], l, 5, n + 1, true⟩ := by
  unfold stepV; rw [if_pos (by exact h)]; rfl
theorem run_go {c : CodeD} {gl : List Int} {f : Nat} {s t : VS} (hd : s.done = false) (h : stepV c gl s = .ok t) : runV c gl (f + 1) s = runV c gl f t := by
  rw [runV, hd, if_neg (by simp), h]; rfl
theorem loop_round {k : Int} {l : List Int} {n f : Nat} (h : n + 3 ≤ 3000) : runV loopC [] (f + 3) (loopS k l n) = runV loopC [] f ⟨if 0 < loopV k then 0 else 3, [loopV k], [], 0, [], l ++ [9], 0, n + 3, false⟩ := by
  rw [run_go rfl (loop_1 (by omega)), run_go rfl (loop_2 (by omega)), run_go rfl (loop_3 (by omega))]
theorem loop_run : ∀ (m : Nat) (k : Int) (l : List Int) (n f : Nat), (k = (m : Int) + 1 ∨ (m = 0 ∧ k = 0)) → n + 3 * m + 4 ≤ 3000 → 3 * m + 5 ≤ f → ∃ v, runV loopC [] f (loopS k l n) = .ok ⟨4, [v], [], 0, [], l ++ List.replicate (m + 1) 9, 5, n + 3 * m + 4, true⟩
  | 0, k, l, n, f, hk, hn, hf => by
    have h0 : loopV k = 0 := by unfold loopV; omega
    obtain ⟨g, rfl⟩ : ∃ g, f = g + 2 + 3 := ⟨f - 5, by omega⟩
    rw [loop_round (by omega), h0, if_neg (by omega), run_go rfl (loop_4 (by omega))]
    exact ⟨0, rfl⟩
  | m + 1, k, l, n, f, hk, hn, hf => by
    have hk' : k = (m : Int) + 2 := by omega
    have h1 : loopV k = (m : Int) + 1 := by unfold loopV; omega
    obtain ⟨g, rfl⟩ : ∃ g, f = g + 3 := ⟨f - 3, by omega⟩
    rw [loop_round (by omega), h1, if_pos (by omega)]
    obtain ⟨v, hv⟩ := loop_run m ((m : Int) + 1) (l ++ [9]) (n + 3) g (.inl rfl) (by omega) (by omega)
    refine ⟨v, ?_⟩
    have e : loopS ((m : Int) + 1) (l ++ [9]) (n + 3) = ⟨0, [(m : Int) + 1], [], 0, [], l ++ [9], 0, n + 3, false⟩ := rfl
    rw [← e, hv, List.append_assoc, show [(9 : Int)] ++ List.replicate (m + 1) 9 = List.replicate (m + 1 + 1) 9 from rfl]
    congr 2
    omega
theorem vm_loop {k : Nat} (h : k ≤ 300) : vmM loopC [(k : Int)] [] = (([], List.replicate (max k 1) 9, 5, 3 * ((max k 1 : Nat) : Int) + 1, ()), 0) := by
  have hv : validV loopC [(k : Int)] = true := by
    unfold validV
    simp [loopC]
    omega
  obtain ⟨v, hr⟩ := loop_run (k - 1) (k : Int) [] 0 3001 (by omega) (by omega) (by omega)
  unfold vmM
  rw [if_pos hv]
  have e : startV loopC [(k : Int)] = loopS k [] 0 := rfl
  rw [e, hr]
  show (([], [] ++ List.replicate (k - 1 + 1) 9, 5, ((0 + 3 * (k - 1) + 4 : Nat) : Int), ()), 0) = _
  rw [List.nil_append, show k - 1 + 1 = max k 1 by omega, show ((0 + 3 * (k - 1) + 4 : Nat) : Int) = 3 * ((max k 1 : Nat) : Int) + 1 by omega]

abbrev exA : CodeD := ([insD 1 65535 0, insD 1 2 0, insD 4 0 0, insD 14 0 0, insD 16 0 0], 0, 0, ())
abbrev exB : CodeD := ([insD 2 0 0, insD 12 3 0, insD 15 7 0, insD 16 0 0], 1, 1, ())
abbrev ex0 : CodeD := ([], 0, 0, ())
theorem ex_a : vmM exA [] [] = (([], [1], 0, 5, ()), 0) := by kernel_rfl
theorem ex_b : vmM exB [1] [] = (([1], [], 7, 3, ()), 0) := by kernel_rfl
theorem ex_g : vmM exB [1] [0] = (([2], [], 0, 3, ()), 0) := by kernel_rfl
theorem ex_0 : vmM ex0 [] [] = (out0, 21) := by kernel_rfl
theorem ex_n : vmM exB [1, 2] [] = (out0, 1) := by kernel_rfl
end Go.Proofs.YtmbdbfdlbbkclaaDoor
