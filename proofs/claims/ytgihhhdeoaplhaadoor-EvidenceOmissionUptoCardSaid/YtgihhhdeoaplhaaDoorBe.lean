/- Package merkle walked; Merkle trees in plain form. -/
import Derived.Test.YtgihhhdeoaplhaaDoorBd
import Derived.Test.YtgihhhdeoaplhaaDoorBb
import Derived.Test.YtgihhhdeoaplhaaDoorBc

/- Package merkle: plain mathematics. -/
namespace Go.Proofs.YtgihhhdeoaplhaaDoor
set_option linter.unusedSimpArgs false
set_option linter.unusedVariables false
open Go.RowKit Go.Sl

def splitF : Nat → Nat → Nat → Nat
  | 0, _, k => k
  | f + 1, n, k => if 2 * k < n then splitF f n (2 * k) else k
/-- The leaves of the left subtree of a tree over n leaves. -/
def splitM (n : Nat) : Nat := splitF n n 1
theorem splitF_spec : ∀ (f n k : Nat), 1 ≤ k → k < n → 1 ≤ splitF f n k ∧ splitF f n k < n
  | 0, n, k, h1, h2 => ⟨h1, h2⟩
  | f + 1, n, k, h1, h2 => by
    unfold splitF
    split
    · exact splitF_spec f n (2 * k) (by omega) (by omega)
    · exact ⟨h1, h2⟩
theorem splitM_spec {n : Nat} (h : 2 ≤ n) : 1 ≤ splitM n ∧ splitM n < n := splitF_spec n n 1 (by omega) (by omega)
theorem splitF_stop {f n k : Nat} (h : ¬ 2 * k < n) : splitF f n k = k := by cases f <;> simp [splitF, h]
theorem splitF_go : ∀ (f n k : Nat), 2 * k < n → n ≤ f + k → splitF f n k = splitF (f - 1) n (2 * k)
  | 0, n, k, h1, h2 => by omega
  | f + 1, n, k, h1, h2 => by rw [splitF, if_pos h1]; rfl
theorem splitF_more : ∀ (f g n k : Nat), 1 ≤ k → n ≤ f + k → n ≤ g + k → splitF f n k = splitF g n k
  | 0, g, n, k, h0, h1, h2 => by rw [splitF_stop (by omega), splitF_stop (by omega)]
  | f + 1, 0, n, k, h0, h1, h2 => by rw [splitF_stop (by omega), splitF_stop (by omega)]
  | f + 1, g + 1, n, k, h0, h1, h2 => by
    unfold splitF
    split
    · exact splitF_more f g n (2 * k) (by omega) (by omega) (by omega)
    · rfl

def leafM (d : Dg) : Dg := ⟨dig 1 [d.l]⟩
def nodeM (a b : Dg) : Dg := ⟨dig 2 [a.l, b.l]⟩
def emptyM : Dg := ⟨dig 1 []⟩
def rootF : Nat → List Dg → Dg
  | _, [] => emptyM
  | _, [d] => leafM d
  | 0, _ => emptyM
  | f + 1, l => nodeM (rootF f (l.take (splitM l.length))) (rootF f (l.drop (splitM l.length)))
def rootM (l : List Dg) : Dg := rootF l.length l
theorem rootF_more : ∀ (f g : Nat) (l : List Dg), l.length ≤ f → l.length ≤ g → rootF f l = rootF g l
  | f, g, [], _, _ => by cases f <;> cases g <;> rfl
  | f, g, [d], _, _ => by cases f <;> cases g <;> rfl
  | 0, g, a :: b :: r, h, _ => by simp at h
  | f + 1, 0, a :: b :: r, _, h => by simp at h
  | f + 1, g + 1, a :: b :: r, h1, h2 => by
    have hs := splitM_spec (n := (a :: b :: r).length) (by simp)
    have e1 : ((a :: b :: r).take (splitM (a :: b :: r).length)).length ≤ f := by rw [List.length_take]; omega
    have e2 : ((a :: b :: r).drop (splitM (a :: b :: r).length)).length ≤ f := by rw [List.length_drop]; omega
    have e3 : ((a :: b :: r).take (splitM (a :: b :: r).length)).length ≤ g := by rw [List.length_take]; omega
    have e4 : ((a :: b :: r).drop (splitM (a :: b :: r).length)).length ≤ g := by rw [List.length_drop]; omega
    rw [rootF, rootF, rootF_more f g _ e1 e3, rootF_more f g _ e2 e4]
    all_goals simp
theorem rootM_nil : rootM [] = emptyM := rfl
theorem rootM_one (d : Dg) : rootM [d] = leafM d := rfl
theorem rootM_two {l : List Dg} (h : 2 ≤ l.length) : rootM l = nodeM (rootM (l.take (splitM l.length))) (rootM (l.drop (splitM l.length))) := by
  have hs := splitM_spec h
  match l, h with
  | a :: b :: r, h =>
    have e1 : ((a :: b :: r).take (splitM (a :: b :: r).length)).length ≤ r.length + 1 := by rw [List.length_take]; simp at hs ⊢; omega
    have e2 : ((a :: b :: r).drop (splitM (a :: b :: r).length)).length ≤ r.length + 1 := by rw [List.length_drop]; simp at hs ⊢; omega
    show rootF (r.length + 1 + 1) (a :: b :: r) = _
    rw [rootF, rootM, rootM, rootF_more _ (r.length + 1) _ (Nat.le_refl _) e1, rootF_more _ (r.length + 1) _ (Nat.le_refl _) e2]
    all_goals simp

/-- The proof for leaf i. -/
def proofF : Nat → List Dg → Nat → List Dg
  | 0, _, _ => []
  | f + 1, l, i => if l.length < 2 then [] else
    if i < splitM l.length then proofF f (l.take (splitM l.length)) i ++ [rootM (l.drop (splitM l.length))]
    else proofF f (l.drop (splitM l.length)) (i - splitM l.length) ++ [rootM (l.take (splitM l.length))]
def proofM (l : List Dg) (i : Nat) : List Dg := proofF l.length l i
theorem proofF_more : ∀ (f g : Nat) (l : List Dg) (i : Nat), l.length ≤ f → l.length ≤ g → proofF f l i = proofF g l i
  | 0, 0, l, i, _, _ => rfl
  | 0, g + 1, l, i, h, _ => by rw [proofF, proofF, if_pos (by omega)]
  | f + 1, 0, l, i, _, h => by rw [proofF, proofF, if_pos (by omega)]
  | f + 1, g + 1, l, i, h1, h2 => by
    unfold proofF
    by_cases h : l.length < 2
    · rw [if_pos h, if_pos h]
    · have hs := splitM_spec (n := l.length) (by omega)
      have e1 : (l.take (splitM l.length)).length ≤ f := by rw [List.length_take]; omega
      have e2 : (l.drop (splitM l.length)).length ≤ f := by rw [List.length_drop]; omega
      have e3 : (l.take (splitM l.length)).length ≤ g := by rw [List.length_take]; omega
      have e4 : (l.drop (splitM l.length)).length ≤ g := by rw [List.length_drop]; omega
      rw [if_neg h, if_neg h, proofF_more f g _ i e1 e3, proofF_more f g _ _ e2 e4]
theorem proofM_one {l : List Dg} (h : l.length < 2) (i : Nat) : proofM l i = [] := by
  unfold proofM
  cases e : l.length with
  | zero => rfl
  | succ n => rw [proofF, if_pos h]
theorem proofM_left {l : List Dg} {i : Nat} (h : 2 ≤ l.length) (hi : i < splitM l.length) : proofM l i = proofM (l.take (splitM l.length)) i ++ [rootM (l.drop (splitM l.length))] := by
  have hs := splitM_spec h
  obtain ⟨n, hn⟩ : ∃ n, l.length = n + 1 := ⟨l.length - 1, by omega⟩
  have e1 : (l.take (splitM l.length)).length ≤ n := by rw [List.length_take]; omega
  rw [proofM, proofM, proofF_more _ n _ _ (Nat.le_refl _) e1]
  conv => lhs; rw [hn, proofF]
  rw [if_neg (by omega), if_pos hi]
theorem proofM_right {l : List Dg} {i : Nat} (h : 2 ≤ l.length) (hi : ¬ i < splitM l.length) : proofM l i = proofM (l.drop (splitM l.length)) (i - splitM l.length) ++ [rootM (l.take (splitM l.length))] := by
  have hs := splitM_spec h
  obtain ⟨n, hn⟩ : ∃ n, l.length = n + 1 := ⟨l.length - 1, by omega⟩
  have e1 : (l.drop (splitM l.length)).length ≤ n := by rw [List.length_drop]; omega
  rw [proofM, proofM, proofF_more _ n _ _ (Nat.le_refl _) e1]
  conv => lhs; rw [hn, proofF]
  rw [if_neg (by omega), if_neg hi]

/-- The sides of the path, from the root on. -/
def sidesF : Nat → Nat → Nat → List Bool
  | 0, _, _ => []
  | f + 1, n, i => if n < 2 then [] else if i < splitM n then true :: sidesF f (splitM n) i else false :: sidesF f (n - splitM n) (i - splitM n)
def sidesM (n i : Nat) : List Bool := sidesF n n i
theorem sidesF_more : ∀ (f g n i : Nat), n ≤ f → n ≤ g → sidesF f n i = sidesF g n i
  | 0, 0, n, i, _, _ => rfl
  | 0, g + 1, n, i, h, _ => by rw [sidesF, sidesF, if_pos (by omega)]
  | f + 1, 0, n, i, _, h => by rw [sidesF, sidesF, if_pos (by omega)]
  | f + 1, g + 1, n, i, h1, h2 => by
    unfold sidesF
    by_cases h : n < 2
    · rw [if_pos h, if_pos h]
    · have hs := splitM_spec (n := n) (by omega)
      rw [if_neg h, if_neg h, sidesF_more f g (splitM n) i (by omega) (by omega), sidesF_more f g (n - splitM n) _ (by omega) (by omega)]
theorem sidesM_one {n : Nat} (h : n < 2) (i : Nat) : sidesM n i = [] := by
  unfold sidesM
  cases n with
  | zero => rfl
  | succ n => rw [sidesF, if_pos h]
theorem sidesM_left {n i : Nat} (h : 2 ≤ n) (hi : i < splitM n) : sidesM n i = true :: sidesM (splitM n) i := by
  have hs := splitM_spec h
  obtain ⟨m, rfl⟩ : ∃ m, n = m + 1 := ⟨n - 1, by omega⟩
  have e : sidesM (m + 1) i = true :: sidesF m (splitM (m + 1)) i := by
    show sidesF (m + 1) (m + 1) i = _
    rw [sidesF, if_neg (by omega), if_pos hi]
  rw [e, sidesM, sidesF_more m (splitM (m + 1)) _ _ (by omega) (Nat.le_refl _)]
theorem sidesM_right {n i : Nat} (h : 2 ≤ n) (hi : ¬ i < splitM n) : sidesM n i = false :: sidesM (n - splitM n) (i - splitM n) := by
  have hs := splitM_spec h
  obtain ⟨m, rfl⟩ : ∃ m, n = m + 1 := ⟨n - 1, by omega⟩
  have e : sidesM (m + 1) i = false :: sidesF m (m + 1 - splitM (m + 1)) (i - splitM (m + 1)) := by
    show sidesF (m + 1) (m + 1) i = _
    rw [sidesF, if_neg (by omega), if_neg hi]
  rw [e, sidesM, sidesF_more m (m + 1 - splitM (m + 1)) _ _ (by omega) (Nat.le_refl _)]

def stepV (d : Dg) (x : Bool × Dg) : Dg := if x.1 then nodeM d x.2 else nodeM x.2 d
/-- The digest that a proof yields. -/
def foldV (sides : List Bool) (leaf : Dg) (proof : List Dg) : Dg := (sides.reverse.zip proof).foldl stepV (leafM leaf)
def verifyM (root : Dg) (n i : Nat) (leaf : Dg) (proof : List Dg) : Bool := decide (i < n) && (decide ((sidesM n i).length = proof.length) && decide (foldV (sidesM n i) leaf proof = root))

theorem zip_snoc {α β : Type} : ∀ (a : List α) (b : List β) (x : α) (y : β), a.length = b.length → (a ++ [x]).zip (b ++ [y]) = a.zip b ++ [(x, y)]
  | [], [], _, _, _ => rfl
  | _ :: a, _ :: b, x, y, h => by simp [zip_snoc a b x y (by simpa using h)]
theorem foldV_snoc (sides : List Bool) (b : Bool) (leaf : Dg) (proof : List Dg) (s : Dg) (h : sides.length = proof.length) : foldV (b :: sides) leaf (proof ++ [s]) = stepV (foldV sides leaf proof) (b, s) := by
  rw [foldV, List.reverse_cons, zip_snoc _ _ _ _ (by simpa using h), List.foldl_append]
  rfl

theorem complete : ∀ (m : Nat) (l : List Dg) (n i : Nat), l.length = n → n ≤ m → (hi : i < l.length) → (sidesM n i).length = (proofM l i).length ∧ foldV (sidesM n i) l[i] (proofM l i) = rootM l
  | 0, l, n, i, e, h, hi => by omega
  | m + 1, l, n, i, e, h, hi => by
    subst e
    by_cases h2 : l.length < 2
    · have h1 : l.length = 1 := by omega
      obtain ⟨d, rfl⟩ := List.length_eq_one_iff.1 h1
      obtain rfl : i = 0 := by simpa using hi
      exact ⟨rfl, rfl⟩
    · have h2 : 2 ≤ l.length := by omega
      have hs := splitM_spec h2
      rw [rootM_two h2]
      by_cases hk : i < splitM l.length
      · have hl : (l.take (splitM l.length)).length = splitM l.length := by rw [List.length_take]; omega
        have ih := complete m (l.take (splitM l.length)) (splitM l.length) i hl (by omega) (by omega)
        rw [sidesM_left h2 hk, proofM_left h2 hk]
        refine ⟨by simp [ih.1], ?_⟩
        rw [foldV_snoc _ _ _ _ _ ih.1, ← ih.2, List.getElem_take]
        rfl
      · have hl : (l.drop (splitM l.length)).length = l.length - splitM l.length := by rw [List.length_drop]
        have ih := complete m (l.drop (splitM l.length)) (l.length - splitM l.length) (i - splitM l.length) hl (by omega) (by omega)
        rw [sidesM_right h2 hk, proofM_right h2 hk]
        refine ⟨by simp [ih.1], ?_⟩
        rw [foldV_snoc _ _ _ _ _ ih.1, ← ih.2, List.getElem_drop]
        simp only [show splitM l.length + (i - splitM l.length) = i by omega]
        rfl
theorem verify_complete {l : List Dg} {i : Nat} (hi : i < l.length) : verifyM (rootM l) l.length i l[i] (proofM l i) = true := by
  have := complete l.length l l.length i rfl (Nat.le_refl _) hi
  simp [verifyM, hi, this.1, this.2]
theorem sides_40 : ∀ n < 41, ∀ i < n, (sidesM n i).length ≤ 6 := by decide +kernel
theorem proof_40 {l : List Dg} {i : Nat} (h : l.length ≤ 40) (hi : i < l.length) : (proofM l i).length ≤ 6 := by
  rw [← (complete l.length l l.length i rfl (Nat.le_refl _) hi).1]
  exact sides_40 _ (by omega) _ hi
end Go.Proofs.YtgihhhdeoaplhaaDoor

/- Package merkle: plain mathematics of the statements MerkleSound, MerkleBinding and MerkleTampered; what the reference's functions compute. -/
namespace Go.Proofs.YtgihhhdeoaplhaaDoor
set_option linter.unusedSimpArgs false
set_option linter.unusedVariables false
open Go.RowKit Go.Sl

def zeroD : Dg := ⟨List.replicate 16 0⟩
/-- The last element. -/
def lastD (p : List Dg) : Dg := p.getD (p.length - 1) zeroD
def initD (p : List Dg) : List Dg := p.take (p.length - 1)
theorem init_last {p : List Dg} (h : p ≠ []) : initD p ++ [lastD p] = p := by
  have hl : p.length - 1 < p.length := by have := List.length_pos_iff.2 h; omega
  rw [initD, lastD, List.getD_eq_getElem?_getD, List.getElem?_eq_getElem hl]
  have := List.take_succ_eq_append_getElem hl
  rw [show p.length - 1 + 1 = p.length by omega, List.take_length] at this
  exact this.symm
theorem init_len (p : List Dg) : (initD p).length = p.length - 1 := by rw [initD, List.length_take]; omega

def combF : Nat → Nat → Nat → Dg → List Dg → Dg × Bool
  | 0, _, _, leaf, proof => (leafM leaf, decide (proof.length = 0))
  | f + 1, n, i, leaf, proof => if n = 1 then (leafM leaf, decide (proof.length = 0)) else if proof.length = 0 then (zeroD, false) else
    if i < splitM n then (nodeM (combF f (splitM n) i leaf (initD proof)).1 (lastD proof), (combF f (splitM n) i leaf (initD proof)).2)
    else (nodeM (lastD proof) (combF f (n - splitM n) (i - splitM n) leaf (initD proof)).1, (combF f (n - splitM n) (i - splitM n) leaf (initD proof)).2)
def combM (n i : Nat) (leaf : Dg) (proof : List Dg) : Dg × Bool := combF n n i leaf proof
theorem combF_more : ∀ (f g n i : Nat) (leaf : Dg) (proof : List Dg), 1 ≤ n → n ≤ f → n ≤ g → combF f n i leaf proof = combF g n i leaf proof
  | 0, _, n, _, _, _, h, h1, _ => by omega
  | _ + 1, 0, n, _, _, _, h, _, h2 => by omega
  | f + 1, g + 1, n, i, leaf, proof, h, h1, h2 => by
    unfold combF
    by_cases hn : n = 1
    · rw [if_pos hn, if_pos hn]
    · have hs := splitM_spec (n := n) (by omega)
      rw [if_neg hn, if_neg hn, combF_more f g (splitM n) i leaf _ (by omega) (by omega) (by omega), combF_more f g (n - splitM n) (i - splitM n) leaf _ (by omega) (by omega) (by omega)]
theorem combM_one (i : Nat) (leaf : Dg) (proof : List Dg) : combM 1 i leaf proof = (leafM leaf, decide (proof.length = 0)) := rfl
theorem combM_nil {n i : Nat} (h : 2 ≤ n) (leaf : Dg) {proof : List Dg} (h0 : proof.length = 0) : combM n i leaf proof = (zeroD, false) := by
  obtain ⟨m, rfl⟩ : ∃ m, n = m + 1 := ⟨n - 1, by omega⟩
  rw [combM, combF, if_neg (by omega), if_pos h0]
theorem combM_left {n i : Nat} (h : 2 ≤ n) (leaf : Dg) {proof : List Dg} (h0 : proof.length ≠ 0) (hi : i < splitM n) :
    combM n i leaf proof = (nodeM (combM (splitM n) i leaf (initD proof)).1 (lastD proof), (combM (splitM n) i leaf (initD proof)).2) := by
  have hs := splitM_spec h
  obtain ⟨m, hm⟩ : ∃ m, n = m + 1 := ⟨n - 1, by omega⟩
  have e : combF n n i leaf proof = (nodeM (combF m (splitM n) i leaf (initD proof)).1 (lastD proof), (combF m (splitM n) i leaf (initD proof)).2) := by
    subst hm
    rw [combF, if_neg (by omega), if_neg h0, if_pos hi]
  rw [combM, e, combM, combF_more m (splitM n) _ _ _ _ (by omega) (by omega) (Nat.le_refl _)]
theorem combM_right {n i : Nat} (h : 2 ≤ n) (leaf : Dg) {proof : List Dg} (h0 : proof.length ≠ 0) (hi : ¬ i < splitM n) :
    combM n i leaf proof = (nodeM (lastD proof) (combM (n - splitM n) (i - splitM n) leaf (initD proof)).1, (combM (n - splitM n) (i - splitM n) leaf (initD proof)).2) := by
  have hs := splitM_spec h
  obtain ⟨m, hm⟩ : ∃ m, n = m + 1 := ⟨n - 1, by omega⟩
  have e : combF n n i leaf proof = (nodeM (lastD proof) (combF m (n - splitM n) (i - splitM n) leaf (initD proof)).1, (combF m (n - splitM n) (i - splitM n) leaf (initD proof)).2) := by
    subst hm
    rw [combF, if_neg (by omega), if_neg h0, if_neg hi]
  rw [combM, e, combM, combF_more m (n - splitM n) _ _ _ _ (by omega) (by omega) (Nat.le_refl _)]

theorem combM_spec : ∀ (m n i : Nat) (leaf : Dg) (proof : List Dg), 1 ≤ n → i < n → n ≤ m → (combM n i leaf proof).2 = decide ((sidesM n i).length = proof.length) ∧ ((sidesM n i).length = proof.length → (combM n i leaf proof).1 = foldV (sidesM n i) leaf proof)
  | 0, n, _, _, _, h, _, h2 => by omega
  | m + 1, n, i, leaf, proof, h, hi, hm => by
    by_cases h1 : n = 1
    · subst h1
      rw [combM_one, sidesM_one (by omega)]
      refine ⟨by simp [eq_comm], fun e => ?_⟩
      have : proof = [] := List.eq_nil_of_length_eq_zero e.symm
      subst this
      rfl
    · have h2 : 2 ≤ n := by omega
      have hs := splitM_spec h2
      by_cases h0 : proof.length = 0
      · rw [combM_nil h2 leaf h0]
        by_cases hk : i < splitM n
        · rw [sidesM_left h2 hk]; simp [h0]
        · rw [sidesM_right h2 hk]; simp [h0]
      · have hp : proof ≠ [] := fun e => h0 (by rw [e]; rfl)
        have hil := init_len proof
        by_cases hk : i < splitM n
        · obtain ⟨a, b⟩ := combM_spec m (splitM n) i leaf (initD proof) hs.1 hk (by omega)
          rw [combM_left h2 leaf h0 hk, sidesM_left h2 hk]
          simp only [List.length_cons]
          refine ⟨by rw [a]; exact decide_eq_decide.2 (by omega), fun e => ?_⟩
          have e2 : (sidesM (splitM n) i).length = (initD proof).length := by omega
          conv => rhs; rw [← init_last hp]
          rw [foldV_snoc _ _ _ _ _ e2, b e2]
          rfl
        · obtain ⟨a, b⟩ := combM_spec m (n - splitM n) (i - splitM n) leaf (initD proof) (by omega) (by omega) (by omega)
          rw [combM_right h2 leaf h0 hk, sidesM_right h2 hk]
          simp only [List.length_cons]
          refine ⟨by rw [a]; exact decide_eq_decide.2 (by omega), fun e => ?_⟩
          have e2 : (sidesM (n - splitM n) (i - splitM n)).length = (initD proof).length := by omega
          conv => rhs; rw [← init_last hp]
          rw [foldV_snoc _ _ _ _ _ e2, b e2]
          rfl
/-- The reference's answer is ours. -/
theorem verify_comb {root : Dg} {n i : Nat} {leaf : Dg} {proof : List Dg} (hi : i < n) : verifyM root n i leaf proof = ((combM n i leaf proof).2 && decide ((combM n i leaf proof).1 = root)) := by
  obtain ⟨a, b⟩ := combM_spec n n i leaf proof (by omega) hi (Nat.le_refl _)
  rw [verifyM, decide_eq_true hi, Bool.true_and, a]
  by_cases e : (sidesM n i).length = proof.length
  · rw [b e]
  · simp [e]

/-! ### The reference's search for collisions -/
def collF : Nat → List Dg → Nat → Dg → List Dg → Bool
  | 0, _, _, _, _ => false
  | f + 1, l, i, leaf, proof =>
    if l.length = 1 then decide (l.getD 0 zeroD ≠ leaf) && decide (leafM (l.getD 0 zeroD) = leafM leaf)
    else if proof.length = 0 then false
    else if i < splitM l.length then
      (if ((combM (splitM l.length) i leaf (initD proof)).1 ≠ rootM (l.take (splitM l.length)) ∨ lastD proof ≠ rootM (l.drop (splitM l.length))) ∧ nodeM (combM (splitM l.length) i leaf (initD proof)).1 (lastD proof) = nodeM (rootM (l.take (splitM l.length))) (rootM (l.drop (splitM l.length))) then true
      else collF f (l.take (splitM l.length)) i leaf (initD proof))
    else
      (if (lastD proof ≠ rootM (l.take (splitM l.length)) ∨ (combM (l.length - splitM l.length) (i - splitM l.length) leaf (initD proof)).1 ≠ rootM (l.drop (splitM l.length))) ∧ nodeM (lastD proof) (combM (l.length - splitM l.length) (i - splitM l.length) leaf (initD proof)).1 = nodeM (rootM (l.take (splitM l.length))) (rootM (l.drop (splitM l.length))) then true
      else collF f (l.drop (splitM l.length)) (i - splitM l.length) leaf (initD proof))
/-- What is found, or the leaf is the one at the index. -/
theorem coll_sound : ∀ (m : Nat) (l : List Dg) (i : Nat) (leaf : Dg) (proof : List Dg), l.length ≤ m → i < l.length → combM l.length i leaf proof = (rootM l, true) → leaf = l.getD i zeroD ∨ collF m l i leaf proof = true
  | 0, l, _, _, _, h, hi, _ => by omega
  | m + 1, l, i, leaf, proof, h, hi, hc => by
    unfold collF
    by_cases h1 : l.length = 1
    · obtain ⟨d, rfl⟩ := List.length_eq_one_iff.1 h1
      obtain rfl : i = 0 := by simpa using hi
      have e : leafM leaf = leafM d := congrArg Prod.fst hc
      rw [if_pos h1]
      show leaf = d ∨ (decide (d ≠ leaf) && decide (leafM d = leafM leaf)) = true
      by_cases hd : leaf = d
      · exact .inl hd
      · exact .inr (by simp [e, Ne.symm (a := leaf) hd])
    · have h2 : 2 ≤ l.length := by omega
      have hs := splitM_spec h2
      rw [if_neg h1]
      by_cases h0 : proof.length = 0
      · rw [combM_nil h2 leaf h0] at hc
        exact absurd (congrArg Prod.snd hc) (by simp)
      rw [if_neg h0]
      by_cases hk : i < splitM l.length
      · rw [combM_left h2 leaf h0 hk] at hc
        have e1 := congrArg Prod.fst hc
        have e2 := congrArg Prod.snd hc
        simp only at e1 e2
        rw [rootM_two h2] at e1
        rw [if_pos hk]
        split
        · exact .inr rfl
        · rename_i hn
          have hn1 : (combM (splitM l.length) i leaf (initD proof)).1 = rootM (l.take (splitM l.length)) := Classical.byContradiction fun hne => hn ⟨.inl hne, e1⟩
          have hl : (l.take (splitM l.length)).length = splitM l.length := by rw [List.length_take]; omega
          have := coll_sound m (l.take (splitM l.length)) i leaf (initD proof) (by omega) (by omega) (by rw [hl]; exact Prod.ext hn1 e2)
          rwa [List.getD_eq_getElem?_getD, List.getElem?_take_of_lt hk, ← List.getD_eq_getElem?_getD] at this
      · rw [combM_right h2 leaf h0 hk] at hc
        have e1 := congrArg Prod.fst hc
        have e2 := congrArg Prod.snd hc
        simp only at e1 e2
        rw [rootM_two h2] at e1
        rw [if_neg hk]
        split
        · exact .inr rfl
        · rename_i hn
          have hn1 : (combM (l.length - splitM l.length) (i - splitM l.length) leaf (initD proof)).1 = rootM (l.drop (splitM l.length)) := Classical.byContradiction fun hne => hn ⟨.inr hne, e1⟩
          have hl : (l.drop (splitM l.length)).length = l.length - splitM l.length := by rw [List.length_drop]
          have := coll_sound m (l.drop (splitM l.length)) (i - splitM l.length) leaf (initD proof) (by omega) (by omega) (by rw [hl]; exact Prod.ext hn1 e2)
          rwa [List.getD_eq_getElem?_getD, List.getElem?_drop, show splitM l.length + (i - splitM l.length) = i by omega, ← List.getD_eq_getElem?_getD] at this
def collM (l : List Dg) (i : Nat) (leaf : Dg) (proof : List Dg) : Bool := collF l.length l i leaf proof
theorem collF_more : ∀ (f g : Nat) (l : List Dg) (i : Nat) (leaf : Dg) (proof : List Dg), 1 ≤ l.length → l.length ≤ f → l.length ≤ g → collF f l i leaf proof = collF g l i leaf proof
  | 0, _, l, _, _, _, h, h1, _ => by omega
  | _ + 1, 0, l, _, _, _, h, _, h2 => by omega
  | f + 1, g + 1, l, i, leaf, proof, h, h1, h2 => by
    unfold collF
    by_cases hn : l.length = 1
    · rw [if_pos hn, if_pos hn]
    · have hs := splitM_spec (n := l.length) (by omega)
      have e1 : (l.take (splitM l.length)).length = splitM l.length := by rw [List.length_take]; omega
      have e2 : (l.drop (splitM l.length)).length = l.length - splitM l.length := by rw [List.length_drop]
      rw [if_neg hn, if_neg hn, collF_more f g (l.take (splitM l.length)) i leaf _ (by omega) (by omega) (by omega), collF_more f g (l.drop (splitM l.length)) (i - splitM l.length) leaf _ (by omega) (by omega) (by omega)]
theorem collM_left {l : List Dg} {i : Nat} {leaf : Dg} {proof : List Dg} (h : 2 ≤ l.length) (h0 : proof.length ≠ 0) (hi : i < splitM l.length) : collM l i leaf proof =
    (if ((combM (splitM l.length) i leaf (initD proof)).1 ≠ rootM (l.take (splitM l.length)) ∨ lastD proof ≠ rootM (l.drop (splitM l.length))) ∧ nodeM (combM (splitM l.length) i leaf (initD proof)).1 (lastD proof) = nodeM (rootM (l.take (splitM l.length))) (rootM (l.drop (splitM l.length))) then true
      else collM (l.take (splitM l.length)) i leaf (initD proof)) := by
  have hs := splitM_spec h
  have e1 : (l.take (splitM l.length)).length = splitM l.length := by rw [List.length_take]; omega
  obtain ⟨m, hm⟩ : ∃ m, l.length = m + 1 := ⟨l.length - 1, by omega⟩
  rw [collM, collM, collF_more _ m (l.take (splitM l.length)) i leaf _ (by omega) (Nat.le_refl _) (by omega)]
  conv => lhs; rw [hm, collF]
  rw [if_neg (by omega), if_neg h0, if_pos hi]
theorem collM_right {l : List Dg} {i : Nat} {leaf : Dg} {proof : List Dg} (h : 2 ≤ l.length) (h0 : proof.length ≠ 0) (hi : ¬ i < splitM l.length) : collM l i leaf proof =
    (if (lastD proof ≠ rootM (l.take (splitM l.length)) ∨ (combM (l.length - splitM l.length) (i - splitM l.length) leaf (initD proof)).1 ≠ rootM (l.drop (splitM l.length))) ∧ nodeM (lastD proof) (combM (l.length - splitM l.length) (i - splitM l.length) leaf (initD proof)).1 = nodeM (rootM (l.take (splitM l.length))) (rootM (l.drop (splitM l.length))) then true
      else collM (l.drop (splitM l.length)) (i - splitM l.length) leaf (initD proof)) := by
  have hs := splitM_spec h
  have e1 : (l.drop (splitM l.length)).length = l.length - splitM l.length := by rw [List.length_drop]
  obtain ⟨m, hm⟩ : ∃ m, l.length = m + 1 := ⟨l.length - 1, by omega⟩
  rw [collM, collM, collF_more _ m (l.drop (splitM l.length)) _ leaf _ (by omega) (Nat.le_refl _) (by omega)]
  conv => lhs; rw [hm, collF]
  rw [if_neg (by omega), if_neg h0, if_neg hi]
theorem collM_nil {l : List Dg} {i : Nat} {leaf : Dg} {proof : List Dg} (h : 2 ≤ l.length) (h0 : proof.length = 0) : collM l i leaf proof = false := by
  obtain ⟨m, hm⟩ : ∃ m, l.length = m + 1 := ⟨l.length - 1, by omega⟩
  rw [collM, hm, collF, if_neg (by omega), if_pos h0]
theorem collM_one {l : List Dg} {i : Nat} {leaf : Dg} {proof : List Dg} (h : l.length = 1) : collM l i leaf proof = (decide (l.getD 0 zeroD ≠ leaf) && decide (leafM (l.getD 0 zeroD) = leafM leaf)) := by
  rw [collM, h, collF, if_pos h]
theorem sound_law {l : List Dg} {i : Nat} {leaf : Dg} {proof : List Dg} (hi : i < l.length) (h : verifyM (rootM l) l.length i leaf proof = true) : (decide (leaf = l[i]) || collM l i leaf proof) = true := by
  rw [verify_comb hi, Bool.and_eq_true, decide_eq_true_eq] at h
  rcases coll_sound l.length l i leaf proof (Nat.le_refl _) hi (Prod.ext h.2 h.1) with e | e
  · rw [List.getD_eq_getElem?_getD, List.getElem?_eq_getElem hi] at e
    rw [e]
    simp
  · rw [collM, e]; simp

def diffF : Nat → List Dg → List Dg → Bool
  | 0, _, _ => false
  | f + 1, a, b =>
    if a.length = 0 then false
    else if a.length = 1 then decide (a.getD 0 zeroD ≠ b.getD 0 zeroD) && decide (leafM (a.getD 0 zeroD) = leafM (b.getD 0 zeroD))
    else if (rootM (a.take (splitM a.length)) ≠ rootM (b.take (splitM a.length)) ∨ rootM (a.drop (splitM a.length)) ≠ rootM (b.drop (splitM a.length))) ∧ nodeM (rootM (a.take (splitM a.length))) (rootM (a.drop (splitM a.length))) = nodeM (rootM (b.take (splitM a.length))) (rootM (b.drop (splitM a.length))) then true
    else diffF f (a.take (splitM a.length)) (b.take (splitM a.length)) || diffF f (a.drop (splitM a.length)) (b.drop (splitM a.length))
def diffM (a b : List Dg) : Bool := diffF a.length a b
theorem diffF_more : ∀ (f g : Nat) (a b : List Dg), a.length ≤ f → a.length ≤ g → diffF f a b = diffF g a b
  | 0, 0, _, _, _, _ => rfl
  | 0, g + 1, a, b, h, _ => by rw [diffF, diffF, if_pos (by omega)]
  | f + 1, 0, a, b, _, h => by rw [diffF, diffF, if_pos (by omega)]
  | f + 1, g + 1, a, b, h1, h2 => by
    unfold diffF
    by_cases h0 : a.length = 0
    · rw [if_pos h0, if_pos h0]
    by_cases hn : a.length = 1
    · rw [if_neg h0, if_neg h0, if_pos hn, if_pos hn]
    · have hs := splitM_spec (n := a.length) (by omega)
      have e1 : (a.take (splitM a.length)).length = splitM a.length := by rw [List.length_take]; omega
      have e2 : (a.drop (splitM a.length)).length = a.length - splitM a.length := by rw [List.length_drop]
      rw [if_neg h0, if_neg h0, if_neg hn, if_neg hn, diffF_more f g (a.take (splitM a.length)) _ (by omega) (by omega), diffF_more f g (a.drop (splitM a.length)) _ (by omega) (by omega)]
theorem diffM_one {a b : List Dg} (h : a.length = 1) : diffM a b = (decide (a.getD 0 zeroD ≠ b.getD 0 zeroD) && decide (leafM (a.getD 0 zeroD) = leafM (b.getD 0 zeroD))) := by
  rw [diffM, h, diffF, if_neg (by omega), if_pos h]
theorem diffM_nil {a b : List Dg} (h : a.length = 0) : diffM a b = false := by
  rw [diffM, h]; rfl
theorem diffM_two {a b : List Dg} (h : 2 ≤ a.length) : diffM a b =
    (if (rootM (a.take (splitM a.length)) ≠ rootM (b.take (splitM a.length)) ∨ rootM (a.drop (splitM a.length)) ≠ rootM (b.drop (splitM a.length))) ∧ nodeM (rootM (a.take (splitM a.length))) (rootM (a.drop (splitM a.length))) = nodeM (rootM (b.take (splitM a.length))) (rootM (b.drop (splitM a.length))) then true
    else diffM (a.take (splitM a.length)) (b.take (splitM a.length)) || diffM (a.drop (splitM a.length)) (b.drop (splitM a.length))) := by
  have hs := splitM_spec h
  have e1 : (a.take (splitM a.length)).length = splitM a.length := by rw [List.length_take]; omega
  have e2 : (a.drop (splitM a.length)).length = a.length - splitM a.length := by rw [List.length_drop]
  obtain ⟨m, hm⟩ : ∃ m, a.length = m + 1 := ⟨a.length - 1, by omega⟩
  rw [diffM, diffM, diffM, diffF_more _ m (a.take (splitM a.length)) _ (Nat.le_refl _) (by omega), diffF_more _ m (a.drop (splitM a.length)) _ (Nat.le_refl _) (by omega)]
  conv => lhs; rw [hm, diffF]
  rw [if_neg (by omega), if_neg (by omega)]
theorem binding_law : ∀ (m : Nat) (a b : List Dg), a.length ≤ m → a.length = b.length → rootM a = rootM b → a = b ∨ diffM a b = true
  | m, a, b, hm, hl, hr => by
    by_cases h0 : a.length = 0
    · have ha : a = [] := List.eq_nil_of_length_eq_zero h0
      have hb : b = [] := List.eq_nil_of_length_eq_zero (by omega)
      exact .inl (by rw [ha, hb])
    by_cases h1 : a.length = 1
    · obtain ⟨x, rfl⟩ := List.length_eq_one_iff.1 h1
      obtain ⟨y, rfl⟩ := List.length_eq_one_iff.1 (hl ▸ h1)
      have e : leafM x = leafM y := hr
      by_cases hx : x = y
      · exact .inl (by rw [hx])
      · refine .inr ?_
        rw [diffM_one rfl]
        simp [hx, e]
    · have h2 : 2 ≤ a.length := by omega
      have hs := splitM_spec h2
      have e1 : (a.take (splitM a.length)).length = splitM a.length := by rw [List.length_take]; omega
      have e2 : (a.drop (splitM a.length)).length = a.length - splitM a.length := by rw [List.length_drop]
      have e3 : (b.take (splitM a.length)).length = splitM a.length := by rw [List.length_take]; omega
      have e4 : (b.drop (splitM a.length)).length = a.length - splitM a.length := by rw [List.length_drop]; omega
      rw [rootM_two h2, rootM_two (l := b) (by omega), ← hl] at hr
      rw [diffM_two h2]
      split
      · exact .inr rfl
      · rename_i hn
        have n1 := Classical.byContradiction fun hne => hn ⟨.inl hne, hr⟩
        have n2 := Classical.byContradiction fun hne => hn ⟨.inr hne, hr⟩
        match m, hm with
        | 0, hm => omega
        | m + 1, hm =>
          rcases binding_law m _ _ (by omega) (by omega) n1 with a1 | a1
          · rcases binding_law m _ _ (by omega) (by omega) n2 with a2 | a2
            · exact .inl (by rw [← List.take_append_drop (splitM a.length) a, a1, a2, List.take_append_drop])
            · exact .inr (by rw [a2]; simp)
          · exact .inr (by rw [a1]; simp)

/-! ### Tampering -/
theorem tampered_root {l : List Dg} {i : Nat} (hi : i < l.length) {bad : Dg} (hb : bad ≠ rootM l) : verifyM bad l.length i l[i] (proofM l i) = false := by
  have := complete l.length l l.length i rfl (Nat.le_refl _) hi
  simp [verifyM, hi, this.1, this.2, Ne.symm hb]
theorem tampered_len {l : List Dg} {i : Nat} (hi : i < l.length) {root leaf : Dg} {p : List Dg} (hp : p.length ≠ (proofM l i).length) : verifyM root l.length i leaf p = false := by
  have := complete l.length l l.length i rfl (Nat.le_refl _) hi
  simp only [verifyM, this.1, Bool.and_eq_false_iff]
  exact .inr (.inl (decide_eq_false (Ne.symm hp)))
end Go.Proofs.YtgihhhdeoaplhaaDoor

/- Package merkle: split, leaves, nodes, roots, walked. -/
--@u32
--@hgp
--@flat
--@dg
namespace Go.Proofs.YtgihhhdeoaplhaaDoor
set_option linter.unusedSimpArgs false
set_option linter.unusedVariables false
open Go.RowKit Go.Sl

theorem rl_1 {S : Snap} {v : Value} {x : List UInt8} (h : RSl S v x) : RL S [v] [x] := by
  refine ⟨rfl, fun i y hy => ?_⟩
  match i, hy with
  | 0, hy => cases hy; exact ⟨v, rfl, h⟩
theorem rl_2 {S : Snap} {v u : Value} {x y : List UInt8} (h : RSl S v x) (k : RSl S u y) : RL S [v, u] [x, y] := by
  refine ⟨rfl, fun i z hz => ?_⟩
  match i, hz with
  | 0, hz => cases hz; exact ⟨v, rfl, h⟩
  | 1, hz => cases hz; exact ⟨u, rfl, k⟩
theorem lit_p1 {S : Snap} {M : List Chunk} {w : World} {v u : Value} {T : TypeId} {x : List UInt8} (h : St S (.sl v T 1 1 [u] :: M) w) (hu : RSl S u x) : ∃ S', S.Le S' ∧ St S' M w ∧ RSl S' v [x] :=
  St.freeze (α := List UInt8) h (rl_1 hu) rfl
theorem lit_p2 {S : Snap} {M : List Chunk} {w : World} {v u u' : Value} {T : TypeId} {x y : List UInt8} (h : St S (.sl v T 1 2 [u, u'] :: M) w) (hu : RSl S u x) (hu' : RSl S u' y) : ∃ S', S.Le S' ∧ St S' M w ∧ RSl S' v [x, y] :=
  St.freeze (α := List UInt8) h (rl_2 hu hu') rfl
theorem dg_box {S : Snap} {M : List Chunk} {w : World} {b : Nat} {T : TypeId} {d : Dg} (h : St S (.box b (u8s d.l) T :: M) w) (hl : d.l.length = 16) : ∃ S', S.Le S' ∧ St S' M w ∧ Pt S' (.pointer (some ⟨b, 0, none⟩)) d :=
  pt_box (α := Dg) (x := d) h (by exact ⟨hl, rl_u8 d.l⟩) (by rw [u8s_length, hl]; rfl)
theorem leafM_len (d : Dg) : (leafM d).l.length = 16 := dig_len _ _
theorem nodeM_len (a b : Dg) : (nodeM a b).l.length = 16 := dig_len _ _
theorem emptyM_len : emptyM.l.length = 16 := dig_len _ _
abbrev dgV (d : Dg) : Value := .agg (u8s d.l).toArray
theorem rootF_len : ∀ (f : Nat) (l : List Dg), (rootF f l).l.length = 16
  | f, [] => by cases f <;> exact emptyM_len
  | f, [d] => by cases f <;> exact leafM_len d
  | 0, a :: b :: r => emptyM_len
  | f + 1, a :: b :: r => by rw [rootF]; exact nodeM_len _ _; all_goals simp
theorem rootM_len (l : List Dg) : (rootM l).l.length = 16 := rootF_len _ _
instance lenDig {t : Int} {p : List (List UInt8)} : LenIs (dig t p) 16 := ⟨dig_len _ _⟩
instance lenLeaf {d : Dg} : LenIs (leafM d).l 16 := ⟨leafM_len _⟩
instance lenNode {a b : Dg} : LenIs (nodeM a b).l 16 := ⟨nodeM_len _ _⟩
instance lenEmpty : LenIs emptyM.l 16 := ⟨emptyM_len⟩
instance lenRoot {l : List Dg} : LenIs (rootM l).l 16 := ⟨rootM_len _⟩

set_option maxRecDepth 8000 in
set_option maxHeartbeats 400000 in
theorem split_c {S M} (w : World) (hst : St S M w) (n : Nat) (h2 : 2 ≤ n) (hm : n ≤ 1048576) :
    Rets Tryd.prog 57 [.int .i64 (n : Int)] w fun v w' => v = .int .i64 (splitM n : Nat) ∧ St S M w' := by
  unfold Rets
  go_enter Tryd.func57, Tryd.ntmps57
  repeat' (((fail_if_success (go_big_may)); (go_step)))
  go_loopw [3] (fun v wr => ∃ (k : Nat), 1 ≤ k ∧ k < n ∧ v = .int .i64 k ∧ Hid (splitF n n k = splitM n) ∧ St S M wr) (fun v _ => n - (intOf v).toNat)
  case atStart => exact ⟨1, by omega, by omega, rfl, Lib.hid rfl, hst⟩
  case round =>
    clear hst
    obtain ⟨k, h1, hk, rfl, hs, hst⟩ := hrel
    by_cases hlt : 2 * k < n
    · repeat' (first | ((fail_if_success (go_big_may)); (go_step)) | (with_reducible refine Sl.gate rfl ?_; (go_step)))
      go_roundw
      case rel => exact ⟨2 * k, by omega, hlt, by go_num, Lib.hid (by rw [← hs.out, splitF_go n n k hlt (by omega)]; exact splitF_more _ _ _ _ (by omega) (by omega) (by omega)), hst⟩
      case measure => simp [intOf]; omega
    · repeat' (first | ((fail_if_success (go_big_may)); (go_step)) | (with_reducible refine Sl.gate rfl ?_; (go_step)))
      go_ret
      refine ⟨_, rfl, ?_, hst⟩
      rw [← hs.out, splitF_stop hlt]
      rfl

set_option maxRecDepth 8000 in
set_option maxHeartbeats 400000 in
theorem leaf_c {S M} (w : World) (hst : St S M w) (hG : Glob S) (d : Dg) (hd : d.l.length = 16) :
    Rets Tryd.prog 62 [dgV d] w fun v w' => v = dgV (leafM d) ∧ St S M w' := by
  unfold Rets
  go_enter Tryd.func62, Tryd.ntmps62
  repeat' ((fail_if_success (with_reducible show Code.wp _ (Code.region 1 _ _) _ _ _)); first | ((fail_if_success (go_big_may)); (go_step)) | ((((first | (refine s_box hst evX rfl ?_; clear hst; intro bx w hst) | (refine s_alloc hst inX ?_; clear hst; intro bk w hst)))) <;> (try refine nY ?_) <;> (try replace hst := nH hst)))
  obtain ⟨S1, hS1, hst, hpd⟩ := dg_box hst.swap hd
  refine wp_region_lit ?_
  refine s_ex hst (qt_arrSliceP (a := 0) (b := 16) evX hpd inX inX (.inl ⟨rfl, rfl⟩) (.inl ⟨rfl, rfl⟩) (by omega) (by omega) (by unfold maxLen; omega)) ?_
  rintro v hv
  rw [List.drop_zero, List.take_of_length_le (by omega)] at hv
  have hv1 := hv.oneCell
  refine nY ?_
  refine s_lit (vs := [v]) hst inX inX rfl rfl (by simp [cells_size1 hv1]) rfl (by omega) (by omega) ?_
  clear hst; intro x w hst
  simp only [List.map_cons, List.map_nil, cells_one hv1, List.flatten_cons, List.flatten_nil, List.append_nil] at hst
  obtain ⟨S2, hS2, hst, hx⟩ := lit_p1 hst hv
  refine nY ?_
  repeat' (first | (((with_reducible refine Sl.k_call ?_; ((refine s_call (digest_c _ hst ((hG.mono hS1).mono hS2) 1 (by omega) _ _ hx (by simp [sizeB]; omega)) inX rfl ?_; clear hst; rintro v w ⟨rfl, hst⟩)))) <;> (try refine nY ?_) <;> (try replace hst := nH hst)) | ((fail_if_success (go_big_may)); (go_step)) | (((((with_reducible refine Sl.k_store ?_; (refine s_stD hst rfl BoxIn.h inX evX inX lenX ?_); clear hst; intro w hst)))) <;> (try refine nY ?_) <;> (try replace hst := nH hst)))
  exact ret_D rfl hst rfl BoxIn.h inX inX ⟨_, rfl, rfl, St.weaken (hS1.trans hS2) hst.drop⟩

set_option maxRecDepth 8000 in
set_option maxHeartbeats 400000 in
theorem node_c {S M} (w : World) (hst : St S M w) (hG : Glob S) (a b : Dg) (ha : a.l.length = 16) (hb : b.l.length = 16) :
    Rets Tryd.prog 63 [dgV a, dgV b] w fun v w' => v = dgV (nodeM a b) ∧ St S M w' := by
  unfold Rets
  go_enter Tryd.func63, Tryd.ntmps63
  repeat' ((fail_if_success (with_reducible show Code.wp _ (Code.region 1 _ _) _ _ _)); first | ((fail_if_success (go_big_may)); (go_step)) | ((((first | (refine s_box hst evX rfl ?_; clear hst; intro bx w hst) | (refine s_alloc hst inX ?_; clear hst; intro bk w hst)))) <;> (try refine nY ?_) <;> (try replace hst := nH hst)))
  obtain ⟨S1, hS1, hst, hpb⟩ := dg_box (hst.perm (List.Perm.swap _ _ _)) hb
  obtain ⟨S2, hS2, hst, hpa⟩ := dg_box hst.swap ha
  replace hpb := hpb.mono hS2
  have hG2 := (hG.mono hS1).mono hS2
  refine v_begin hst (by kernel_rfl) ?_; clear hst; intro ops; (try refine nY ?_)
  ((refine t_ex 0 rfl (by kernel_rfl) rfl rfl (fun w hst => qt_arrSliceP (a := 0) (b := 16) evX hpa inX inX (.inl ⟨rfl, rfl⟩) (.inl ⟨rfl, rfl⟩) (by omega) (by omega) (by unfold maxLen; omega) ) ?_; rintro  v5 hv5)) <;> (try refine nY ?_)
  ((refine t_ex 1 rfl (by kernel_rfl) rfl rfl (fun w hst => qt_arrSliceP (a := 0) (b := 16) evX hpb inX inX (.inl ⟨rfl, rfl⟩) (.inl ⟨rfl, rfl⟩) (by omega) (by omega) (by unfold maxLen; omega) ) ?_; rintro  v6 hv6)) <;> (try refine nY ?_)
  refine v_one 2 rfl (by kernel_rfl) ?_; intro w hst K hK; (rw [List.drop_zero, List.take_of_length_le (by omega)] at hv5 hv6; refine s_lit (vs := [v5, v6]) hst inX inX rfl rfl (by simp [cells_size1 hv5.oneCell, cells_size1 hv6.oneCell]) rfl (by omega) (by omega) ?_; clear hst; intro x2 w hst; simp only [List.map_cons, List.map_nil, cells_one hv5.oneCell, cells_one hv6.oneCell, List.flatten_cons, List.flatten_nil, List.append_nil, List.cons_append, List.nil_append] at hst; obtain ⟨S3, hS3, hst, hx⟩ := lit_p2 hst hv5 hv6); (try refine nY ?_); (try replace hst := nH hst); refine v_next hK hst hS3 (Suf.refl _) ?_; clear hst hK K; (try clear w); (try refine nY ?_)
  (refine t_call 3 rfl (by kernel_rfl) rfl (fun S' M' w hS hM hst => digest_c w hst ((hG2.mono hS3).mono hS) 2 (by omega) _ _ (hx.mono hS) (by simp [sizeB]; omega)) inX rfl ?_) <;> (try refine nY ?_)
  refine v_one 4 rfl (by kernel_rfl) ?_; intro w hst K hK; (refine s_stD hst rfl BoxIn.h inX evX inX lenX ?_); clear hst; intro w hst; (try refine nY ?_); (try replace hst := nH hst); refine v_last hK hst ?_; clear hst hK K; (try clear w); (try refine nY ?_)
  refine v_done (by kernel_rfl) ?_; clear ops; intro w hst
  repeat' (((fail_if_success (go_big_may)); (go_step)))
  exact ret_D rfl hst rfl BoxIn.h inX inX ⟨_, rfl, rfl, St.weaken ((hS1.trans hS2).trans hS3) hst.drop⟩

set_option maxRecDepth 8000 in
set_option maxHeartbeats 400000 in
theorem root0_c {S M} (w : World) (hst : St S M w) (hG : Glob S) (vl : Value) (l : List Dg) (hl : RSl S vl l) (h0 : l.length = 0) :
    Rets Tryd.prog 58 [vl] w fun v w' => v = dgV (rootM l) ∧ St S M w' := by
  unfold Rets
  obtain rfl := List.eq_nil_of_length_eq_zero h0
  have hnil : RSl S (.slice none 0 0) ([] : List (List UInt8)) := .inl ⟨none, 0, rfl, rfl, by unfold maxLen; omega⟩
  go_enter Tryd.func58, Tryd.ntmps58
  repeat' (first | (((with_reducible refine Sl.k_call ?_; ((refine s_call (digest_c _ hst hG 1 (by omega) _ _ hnil (by simp [sizeB])) inX rfl ?_; clear hst; rintro v w ⟨rfl, hst⟩)))) <;> (try refine nY ?_) <;> (try replace hst := nH hst)) | ((fail_if_success (go_big_may)); (go_step)) | (((with_reducible refine Sl.k_call ?_; (refine s_qt hst (by exact qt_len evX asX inX) ?_))) <;> (try refine nY ?_)) | (with_reducible refine Sl.gate rfl ?_; (go_step)) | ((((first | (with_reducible refine Sl.k_store ?_; (refine s_stD hst rfl BoxIn.h inX evX inX lenX ?_); clear hst; intro w hst) | (refine s_alloc hst inX ?_; clear hst; intro bk w hst)))) <;> (try refine nY ?_) <;> (try replace hst := nH hst)))
  exact ret_D rfl hst rfl BoxIn.h inX inX ⟨_, rfl, rfl, hst.drop⟩

set_option maxRecDepth 8000 in
set_option maxHeartbeats 400000 in
theorem root1_c {S M} (w : World) (hst : St S M w) (hG : Glob S) (vl : Value) (l : List Dg) (hl : RSl S vl l) (h1 : l.length = 1) :
    Rets Tryd.prog 58 [vl] w fun v w' => v = dgV (rootM l) ∧ St S M w' := by
  unfold Rets
  have h11 : 1 ≤ l.length ∧ l.length ≤ 1 := by omega
  have h0l : 0 < l.length := by omega
  clear h1
  have hd := hl.dgs (l[0]'h0l) (List.getElem_mem h0l)
  have hE : Hid (rootM l = leafM (l[0]'h0l)) := Lib.hid (by
    obtain ⟨d, rfl⟩ := List.length_eq_one_iff.1 (show l.length = 1 by omega)
    rfl)
  go_enter Tryd.func58, Tryd.ntmps58
  repeat' (first | (((with_reducible refine Sl.k_call ?_; ((refine s_call (leaf_c _ hst hG l[0] hd) inX rfl ?_; clear hst; rintro v w ⟨rfl, hst⟩)))) <;> (try refine nY ?_) <;> (try replace hst := nH hst)) | ((fail_if_success (go_big_may)); (go_step)) | ((first | (with_reducible refine Sl.k_load ?_; (refine s_qt hst (by exact qt_ldp_flat evX asX inX inX rfl) ?_)) | (with_reducible refine Sl.k_index ?_; (((refine s_ex hst (qt_index evX asX rfl inX inX omX omX) ?_); rintro v hp; (try simp only [Int.toNat_natCast, Int.toNat_natCast_add_one, Int.reduceToNat] at hp)))) | (with_reducible refine Sl.k_call ?_; (refine s_qt hst (by exact qt_len evX asX inX) ?_))) <;> (try refine nY ?_)) | (with_reducible refine Sl.gate rfl ?_; (go_step)) | ((((first | (with_reducible refine Sl.k_store ?_; (refine s_stD hst rfl BoxIn.h inX evX inX lenX ?_); clear hst; intro w hst) | (refine s_alloc hst inX ?_; clear hst; intro bk w hst)))) <;> (try refine nY ?_) <;> (try replace hst := nH hst)))
  exact ret_D rfl hst rfl BoxIn.h inX inX ⟨_, rfl, by rw [hE.out], hst.drop⟩

theorem RSl.dg {S : Snap} {v : Value} {xs : List Dg} (h : RSl S v xs) : ∀ d ∈ xs, d.l.length = 16 := h.dgs

set_option maxRecDepth 8000 in
set_option maxHeartbeats 1000000 in
theorem root_c : ∀ (m : Nat) {S M} (w : World) (_hst : St S M w) (_hG : Glob S) (vl : Value) (l : List Dg) (_hl : RSl S vl l) (_hm : l.length ≤ m) (_hm2 : m ≤ 1048576),
    Rets Tryd.prog 58 [vl] w fun v w' => v = dgV (rootM l) ∧ St S M w' := by
  intro m
  induction m with
  | zero => exact fun w hst hG vl l hl h0 h1 => root0_c w hst hG vl l hl (by omega)
  | succ m ih =>
    intro S M w hst hG vl l hl hm hm2
    by_cases h0 : l.length = 0
    · exact root0_c w hst hG vl l hl h0
    · by_cases h1 : l.length = 1
      · exact root1_c w hst hG vl l hl h1
      · have h2 : 2 ≤ l.length := by omega
        obtain ⟨hs1, hs2⟩ := splitM_spec h2
        have hE := Lib.hid (rootM_two h2)
        have hlen1 : (l.take (splitM l.length)).length ≤ m := by rw [List.length_take]; omega
        have hlen2 : (l.drop (splitM l.length)).length ≤ m := by rw [List.length_drop]; omega
        have hsp := fun {S M} (w : World) (hst : St S M w) => split_c w hst l.length h2 (by omega)
        have hl20 : l.length ≤ 1048576 := by omega
        have e9 : (l.drop (splitM l.length)).take (l.length - splitM l.length) = l.drop (splitM l.length) := List.take_of_length_le (by rw [List.length_drop]; exact Nat.le_refl _)
        have E9 := Lib.hid e9
        clear h0 h1 e9
        generalize hk : splitM l.length = k at *
        have Hk := Lib.hid hk
        clear hk
        unfold Rets
        go_enter Tryd.func58, Tryd.ntmps58
        repeat' (first | (((with_reducible refine Sl.k_call ?_; ((refine s_call (hsp _ hst) inX rfl ?_; clear hst; rintro v w ⟨rfl, hst⟩)))) <;> (try refine nY ?_) <;> (try replace hst := nH hst)) | ((fail_if_success (go_big_may)); (go_step)) | (((with_reducible refine Sl.k_call ?_; (refine s_qt hst (by exact qt_len evX asX inX) ?_))) <;> (try refine nY ?_)) | (with_reducible refine Sl.gate rfl ?_; (go_step)) | (((((refine s_alloc hst inX ?_; clear hst; intro bk w hst)))) <;> (try refine nY ?_) <;> (try replace hst := nH hst)))
        refine v_begin hst (by kernel_rfl) ?_; clear hst; intro ops; (try refine nY ?_)
        (refine t_qt 0 rfl (by kernel_rfl) rfl rfl (by exact qt_move evX) ?_) <;> (try refine nY ?_)
        (refine t_qt 1 rfl (by kernel_rfl) rfl rfl (by exact qt_move evX) ?_) <;> (try refine nY ?_)
        (refine t_qt 2 rfl (by kernel_rfl) rfl rfl (by exact qt_move evX) ?_) <;> (try refine nY ?_)
        ((refine t_ex 3 rfl (by kernel_rfl) rfl rfl (fun w hst => qt_slice (a := 0) (b := k) evX hl inX inX (.inl ⟨rfl, rfl⟩) (.inr ⟨.i64, by simp [evF, nth]⟩) (.inr ⟨.i64, k, by simp [evF, nth], by omega, by omega, rfl⟩) (by omega) (by omega) ) ?_; rintro  v3 hv3)) <;> (try refine nY ?_)
        (refine t_call 4 rfl (by kernel_rfl) rfl (fun S' M' w hS hM hst => ih w hst (hG.mono hS) v3 (l.take k) (hv3.mono hS) hlen1 (by omega)) inX rfl ?_) <;> (try refine nY ?_)
        (refine t_qt 5 rfl (by kernel_rfl) rfl rfl (by exact qt_move evX) ?_) <;> (try refine nY ?_)
        (refine t_qt 6 rfl (by kernel_rfl) rfl rfl (by exact qt_move evX) ?_) <;> (try refine nY ?_)
        (refine t_qt 7 rfl (by kernel_rfl) rfl rfl (by exact qt_move evX) ?_) <;> (try refine nY ?_)
        (refine t_qt 8 rfl (by kernel_rfl) rfl rfl (by exact qt_move evX) ?_) <;> (try refine nY ?_)
        ((refine t_ex 9 rfl (by kernel_rfl) rfl rfl (fun w hst => qt_slice (a := k) (b := l.length) evX hl inX inX (.inr ⟨.i64, by simp [evF, nth]⟩) (.inr ⟨.i64, by simp [evF, nth]⟩) (.inr ⟨.i64, l.length, by simp [evF, nth], by omega, by omega, rfl⟩) (by omega) (by omega) ) ?_; rintro  v9 hv9)) <;> (try refine nY ?_)
        (refine t_call 10 rfl (by kernel_rfl) rfl (fun S' M' w hS hM hst => ih w hst (hG.mono hS) v9 (l.drop k) (by have := hv9.mono hS; rwa [E9.out] at this) hlen2 (by omega)) inX rfl ?_) <;> (try refine nY ?_)
        (refine t_call 11 rfl (by kernel_rfl) rfl (fun S' M' w hS hM hst => node_c w hst (hG.mono hS) _ _ (rootM_len _) (rootM_len _)) inX rfl ?_) <;> (try refine nY ?_)
        refine v_one 12 rfl (by kernel_rfl) ?_; intro w hst K hK; (refine s_stD hst rfl BoxIn.h inX evX inX lenX ?_); clear hst; intro w hst; (try refine nY ?_); (try replace hst := nH hst); refine v_last hK hst ?_; clear hst hK K; (try clear w); (try refine nY ?_)
        refine v_done (by kernel_rfl) ?_; clear ops; intro w hst
        repeat' (((fail_if_success (go_big_may)); (go_step)))
        exact ret_D rfl hst rfl BoxIn.h inX inX ⟨_, rfl, by rw [hE.out], hst.drop⟩
end Go.Proofs.YtgihhhdeoaplhaaDoor

/- Package merkle: proofs, walked. -/
--@u32
--@hgp
--@flat
--@dg
namespace Go.Proofs.YtgihhhdeoaplhaaDoor
set_option linter.unusedSimpArgs false
set_option linter.unusedVariables false
open Go.RowKit Go.Sl

theorem dgc_len (ds : List Dg) (h : ∀ d ∈ ds, d.l.length = 16) : (cF dgC ds).length = ds.length * 16 := by
  induction ds with
  | nil => rfl
  | cons d r ih =>
    have h1 := h d (.head _)
    have h2 := ih fun x hx => h x (.tail _ hx)
    have e : cF dgC (d :: r) = u8s d.l ++ cF dgC r := rfl
    rw [e, List.length_append, h2, u8s_length, h1, List.length_cons]
    omega
theorem proofF_len : ∀ (f : Nat) (l : List Dg) (i : Nat), ∀ d ∈ proofF f l i, d.l.length = 16
  | 0, _, _, d, h => by cases h
  | f + 1, l, i, d, h => by
    rw [proofF] at h
    split at h
    · cases h
    · split at h
      · rcases List.mem_append.1 h with h | h
        · exact proofF_len f _ _ d h
        · obtain rfl := List.mem_singleton.1 h; exact rootM_len _
      · rcases List.mem_append.1 h with h | h
        · exact proofF_len f _ _ d h
        · obtain rfl := List.mem_singleton.1 h; exact rootM_len _
theorem proofM_len (l : List Dg) (i : Nat) : ∀ d ∈ proofM l i, d.l.length = 16 := proofF_len _ _ _
theorem proofF_cnt : ∀ (f : Nat) (l : List Dg) (i : Nat), (proofF f l i).length ≤ f
  | 0, _, _ => by simp [proofF]
  | f + 1, l, i => by
    rw [proofF]
    split
    · simp
    · split
      · have := proofF_cnt f (l.take (splitM l.length)) i
        simp; omega
      · have := proofF_cnt f (l.drop (splitM l.length)) (i - splitM l.length)
        simp; omega
theorem proofM_cnt (l : List Dg) (i : Nat) : (proofM l i).length ≤ l.length := proofF_cnt _ _ _

/-- What the recursion keeps: the function itself, and the proof so far. -/
abbrev PrM (b7 b6 : Nat) (u : Value) (c : List Dg) (M : List Chunk) : List Chunk :=
  .sl u 23 16 c.length (cF dgC c) :: .box b7 [.func (.func 56) #[] #[.pointer (some ⟨b7, 0, none⟩), .pointer (some ⟨b6, 0, none⟩)]] 93 :: .box b6 [u] 50 :: M

set_option maxRecDepth 8000 in
set_option maxHeartbeats 1000000 in
theorem walk_c : ∀ (m : Nat) {S M} (w : World) (b7 b6 : Nat) (u : Value) (c : List Dg) (_hst : St S (PrM b7 b6 u c M) w) (_hG : Glob S) (vl : Value) (l : List Dg) (_hl : RSl S vl l) (i : Nat) (_hi : i < l.length) (_hm : l.length ≤ m) (_hm2 : m ≤ 1000) (_hc : c.length + l.length ≤ 2000),
    Rets Tryd.prog 56 [vl, .int .i64 (i : Int), .pointer (some ⟨b7, 0, none⟩), .pointer (some ⟨b6, 0, none⟩)] w fun _ w' => ∃ u', St S (PrM b7 b6 u' (c ++ proofM l i) M) w' := by
  intro m
  induction m with
  | zero => intro S M w b7 b6 u c hst hG vl l hl i hi hm; omega
  | succ m ih =>
    intro S M w b7 b6 u c hst hG vl l hl i hi hm hm2 hc
    by_cases h1 : l.length = 1
    · have hp := proofM_one (l := l) (by omega) i
      have Hp := Lib.hid hp
      clear hp
      have h11 : 1 ≤ l.length ∧ l.length ≤ 1 := by omega
      clear h1
      unfold Rets
      go_enter Tryd.func56, Tryd.ntmps56
      repeat' (first | ((fail_if_success (go_big_may)); (go_step)) | (((with_reducible refine Sl.k_call ?_; (refine s_qt hst (by exact qt_len evX asX inX) ?_))) <;> (try refine nY ?_)) | (with_reducible refine Sl.gate rfl ?_; (go_step)))
      refine bodyPost_ret (results_none rfl _ _ _) rfl ?_
      exact ⟨_, rfl, u, by rw [Hp.out, List.append_nil]; exact hst⟩
    · have h2 : 2 ≤ l.length := by omega
      obtain ⟨hs1, hs2⟩ := splitM_spec h2
      have hsp := fun {S M} (w : World) (hst : St S M w) => split_c w hst l.length h2 (by omega)
      have hL := Lib.hid (fun h => proofM_left (i := i) h2 h)
      have hR := Lib.hid (fun h => proofM_right (i := i) h2 h)
      have hlen1 : (l.take (splitM l.length)).length ≤ m ∧ (l.take (splitM l.length)).length = splitM l.length := by rw [List.length_take]; omega
      have hlen2 : (l.drop (splitM l.length)).length ≤ m ∧ (l.drop (splitM l.length)).length = l.length - splitM l.length := by rw [List.length_drop]; omega
      have E9 : Hid ((l.drop (splitM l.length)).take (l.length - splitM l.length) = l.drop (splitM l.length)) := Lib.hid (List.take_of_length_le (by rw [List.length_drop]; exact Nat.le_refl _))
      obtain ⟨l1, e1⟩ := hlen1
      obtain ⟨l2, e2⟩ := hlen2
      have E1 := Lib.hid e1
      have E2 := Lib.hid e2
      have l1' : i < splitM l.length → i < (l.take (splitM l.length)).length := fun h => by omega
      have l2' : ¬ i < splitM l.length → i - splitM l.length < (l.drop (splitM l.length)).length := fun h => by omega
      have cn1 := proofM_cnt (l.take (splitM l.length)) i
      have cn2 := proofM_cnt (l.drop (splitM l.length)) (i - splitM l.length)
      have cc1 : c.length + (l.take (splitM l.length)).length ≤ 2000 := by omega
      have cc2 : c.length + (l.drop (splitM l.length)).length ≤ 2000 := by omega
      clear e1 e2 h1
      generalize hk : splitM l.length = k at *
      have Hk := Lib.hid hk
      clear hk
      unfold Rets
      by_cases hik : i < k
      · go_enter Tryd.func56, Tryd.ntmps56
        repeat' (first | (((with_reducible refine Sl.k_call ?_; ((refine s_call (hsp _ hst) inX rfl ?_; clear hst; rintro v w ⟨rfl, hst⟩)))) <;> (try refine nY ?_) <;> (try replace hst := nH hst)) | ((fail_if_success (go_big_may)); (go_step)) | (((with_reducible refine Sl.k_call ?_; (refine s_qt hst (by exact qt_len evX asX inX) ?_))) <;> (try refine nY ?_)) | (with_reducible refine Sl.gate rfl ?_; (go_step)))
        refine v_begin hst (by kernel_rfl) ?_; clear hst; intro ops; (try refine nY ?_)
        (refine t_qt 0 rfl (by kernel_rfl) rfl rfl (by exact qt_move evX) ?_) <;> (try refine nY ?_)
        (refine t_qt 1 rfl (by kernel_rfl) rfl rfl (by exact qt_move evX) ?_) <;> (try refine nY ?_)
        (refine t_qt 2 rfl (by kernel_rfl) rfl rfl (by exact qt_move evX) ?_) <;> (try refine nY ?_)
        ((refine t_ex 3 rfl (by kernel_rfl) rfl rfl (fun w hst => qt_slice (a := 0) (b := k) evX hl inX inX (.inl ⟨rfl, rfl⟩) (.inr ⟨.i64, by simp [evF, nth]⟩) (.inr ⟨.i64, k, by simp [evF, nth], by omega, by omega, rfl⟩) (by omega) (by omega) ) ?_; rintro  v3 hv3)) <;> (try refine nY ?_)
        (refine t_qt 4 rfl (by kernel_rfl) rfl rfl (by exact qt_move evX) ?_) <;> (try refine nY ?_)
        (refine t_qt 5 rfl (by kernel_rfl) rfl rfl (by exact qt_move evX) ?_) <;> (try refine nY ?_)
        (refine t_qt 6 rfl (by kernel_rfl) rfl rfl (by exact qt_move evX) ?_) <;> (try refine nY ?_)
        (refine t_qt 7 rfl (by kernel_rfl) rfl rfl (by exact qt_move evX) ?_) <;> (try refine nY ?_)
        ((refine t_ex 8 rfl (by kernel_rfl) rfl rfl (fun w hst => qt_slice (a := k) (b := l.length) evX hl inX inX (.inr ⟨.i64, by simp [evF, nth]⟩) (.inr ⟨.i64, by simp [evF, nth]⟩) (.inr ⟨.i64, l.length, by simp [evF, nth], by omega, by omega, rfl⟩) (by omega) (by omega) ) ?_; rintro  v8 hv8)) <;> (try refine nY ?_)
        (refine t_qt 9 rfl (by kernel_rfl) rfl rfl (by exact qt_assign evX) ?_) <;> (try refine nY ?_)
        (refine t_qt 10 rfl (by kernel_rfl) rfl rfl (by exact qt_assign evX) ?_) <;> (try refine nY ?_)
        refine v_done (by kernel_rfl) ?_; clear ops; intro w hst
        replace hv3 : RSl S v3 (l.take k) := hv3
        rw [E9.out] at hv8
        repeat' (first | ((fail_if_success (go_big_may)); (go_step)) | (((with_reducible refine Sl.k_load ?_; (refine s_qt hst (by exact qt_load rfl _ BoxIn.h inX rfl rfl) ?_))) <;> (try refine nY ?_)) | (with_reducible refine Sl.gate rfl ?_; (go_step)))
        refine s_callv (ih _ b7 b6 u c hst hG v3 (l.take k) hv3 i (l1' hik) l1 (by omega) cc1) rfl inX rfl rfl ?_
        clear hst; rintro v w ⟨u', hst⟩
        refine nY ?_
        repeat' (((fail_if_success (go_big_may)); (go_step)))
        have hcl : (c ++ proofM (l.take k) i).length ≤ 3000 := by rw [List.length_append]; omega
        have hu' := sl_one hst
        have HC := Lib.hid (show c ++ proofM l i = (c ++ proofM (l.take k) i) ++ [rootM (l.drop k)] by rw [hL.out hik, List.append_assoc])
        clear cn1 cn2
        generalize c ++ proofM (l.take k) i = c1 at *
        refine v_begin hst (by kernel_rfl) ?_; clear hst; intro ops; (try refine nY ?_)
        (refine t_qt 0 rfl (by kernel_rfl) rfl rfl (by exact qt_load rfl _ BoxIn.h inX rfl rfl) ?_) <;> (try refine nY ?_)
        (refine t_qt 1 rfl (by kernel_rfl) rfl rfl (by exact qt_move evX) ?_) <;> (try refine nY ?_)
        (refine t_call 2 rfl (by kernel_rfl) rfl (fun S' M' w hS hM hst => root_c (l.drop k).length w hst (hG.mono hS) v8 (l.drop k) (hv8.mono hS) (Nat.le_refl _) (by omega)) inX rfl ?_) <;> (try refine nY ?_)
        refine v_one 3 rfl (by kernel_rfl) ?_; intro w hst K hK; refine s_lit (vs := [dgV (rootM (l.drop k))]) hst inX inX rfl rfl (by simp [Value.cells, u8s_length, rootM_len]) rfl (by omega) (by omega) ?_; clear hst; intro x3 w hst; (try refine nY ?_); (try replace hst := nH hst); refine v_next hK hst (Snap.Le.refl _) (Suf.cons (Suf.refl _)) ?_; clear hst hK K; (try clear w); (try refine nY ?_)
        refine v_one 4 rfl (by kernel_rfl) ?_; intro w hst K hK; refine s_append (j := 0) hst evX evX SlIn.h rfl inX inX inX ((by simpa [Value.cells] using u8s_one (rootM (l.drop k)).l)) (by omega) (by omega) (by decide) ?_; clear hst; intro x4 w hst; (try refine nY ?_); (try replace hst := nH hst); replace hst := hst.drop; have hone4 := sl_one hst; refine v_last hK hst ?_; clear hst hK K; (try clear w); (try refine nY ?_)
        refine v_one 5 rfl (by kernel_rfl) ?_; intro w hst K hK; (refine s_st1 hst rfl BoxIn.h evX asX inX (by simp <;> omega) ?_); clear hst; intro w hst; (try refine nY ?_); (try replace hst := nH hst); refine v_last hK hst ?_; clear hst hK K; (try clear w); (try refine nY ?_)
        refine v_done (by kernel_rfl) ?_; clear ops; intro w hst
        repeat' (((fail_if_success (go_big_may)); (go_step)))
        refine bodyPost_ret (results_none rfl _ _ _) rfl ?_
        refine ⟨_, rfl, x4, ?_⟩
        rw [HC.out]
        show St S (.sl x4 _ 16 (c1 ++ [_]).length (cF dgC (c1 ++ [_])) :: _) _
        rw [List.length_append, cF_snoc]
        exact hst
      · go_enter Tryd.func56, Tryd.ntmps56
        repeat' (first | (((with_reducible refine Sl.k_call ?_; ((refine s_call (hsp _ hst) inX rfl ?_; clear hst; rintro v w ⟨rfl, hst⟩)))) <;> (try refine nY ?_) <;> (try replace hst := nH hst)) | ((fail_if_success (go_big_may)); (go_step)) | (((with_reducible refine Sl.k_call ?_; (refine s_qt hst (by exact qt_len evX asX inX) ?_))) <;> (try refine nY ?_)) | (with_reducible refine Sl.gate rfl ?_; (go_step)))
        refine v_begin hst (by kernel_rfl) ?_; clear hst; intro ops; (try refine nY ?_)
        (refine t_qt 0 rfl (by kernel_rfl) rfl rfl (by exact qt_move evX) ?_) <;> (try refine nY ?_)
        (refine t_qt 1 rfl (by kernel_rfl) rfl rfl (by exact qt_move evX) ?_) <;> (try refine nY ?_)
        (refine t_qt 2 rfl (by kernel_rfl) rfl rfl (by exact qt_move evX) ?_) <;> (try refine nY ?_)
        ((refine t_ex 3 rfl (by kernel_rfl) rfl rfl (fun w hst => qt_slice (a := 0) (b := k) evX hl inX inX (.inl ⟨rfl, rfl⟩) (.inr ⟨.i64, by simp [evF, nth]⟩) (.inr ⟨.i64, k, by simp [evF, nth], by omega, by omega, rfl⟩) (by omega) (by omega) ) ?_; rintro  v3 hv3)) <;> (try refine nY ?_)
        (refine t_qt 4 rfl (by kernel_rfl) rfl rfl (by exact qt_move evX) ?_) <;> (try refine nY ?_)
        (refine t_qt 5 rfl (by kernel_rfl) rfl rfl (by exact qt_move evX) ?_) <;> (try refine nY ?_)
        (refine t_qt 6 rfl (by kernel_rfl) rfl rfl (by exact qt_move evX) ?_) <;> (try refine nY ?_)
        (refine t_qt 7 rfl (by kernel_rfl) rfl rfl (by exact qt_move evX) ?_) <;> (try refine nY ?_)
        ((refine t_ex 8 rfl (by kernel_rfl) rfl rfl (fun w hst => qt_slice (a := k) (b := l.length) evX hl inX inX (.inr ⟨.i64, by simp [evF, nth]⟩) (.inr ⟨.i64, by simp [evF, nth]⟩) (.inr ⟨.i64, l.length, by simp [evF, nth], by omega, by omega, rfl⟩) (by omega) (by omega) ) ?_; rintro  v8 hv8)) <;> (try refine nY ?_)
        (refine t_qt 9 rfl (by kernel_rfl) rfl rfl (by exact qt_assign evX) ?_) <;> (try refine nY ?_)
        (refine t_qt 10 rfl (by kernel_rfl) rfl rfl (by exact qt_assign evX) ?_) <;> (try refine nY ?_)
        refine v_done (by kernel_rfl) ?_; clear ops; intro w hst
        replace hv3 : RSl S v3 (l.take k) := hv3
        rw [E9.out] at hv8
        have hik' : ((i : Int) - (k : Int)) = ((i - k : Nat) : Int) := by omega
        repeat' (first | ((fail_if_success (go_big_may)); (go_step)) | (((with_reducible refine Sl.k_load ?_; (refine s_qt hst (by exact qt_load rfl _ BoxIn.h inX rfl rfl) ?_))) <;> (try refine nY ?_)) | (with_reducible refine Sl.gate rfl ?_; (go_step)))
        have HI := Lib.hid hik'
        clear hik'
        refine s_callv (ih _ b7 b6 u c hst hG v8 (l.drop k) hv8 (i - k) (l2' hik) l2 (by omega) cc2) rfl inX rfl rfl ?_
        clear hst; rintro v w ⟨u', hst⟩
        refine nY ?_
        repeat' (((fail_if_success (go_big_may)); (go_step)))
        have hcl : (c ++ proofM (l.drop k) (i - k)).length ≤ 3000 := by rw [List.length_append]; omega
        have hu' := sl_one hst
        have HC := Lib.hid (show c ++ proofM l i = (c ++ proofM (l.drop k) (i - k)) ++ [rootM (l.take k)] by rw [hR.out hik, List.append_assoc])
        clear cn1 cn2
        generalize c ++ proofM (l.drop k) (i - k) = c1 at *
        refine v_begin hst (by kernel_rfl) ?_; clear hst; intro ops; (try refine nY ?_)
        (refine t_qt 0 rfl (by kernel_rfl) rfl rfl (by exact qt_load rfl _ BoxIn.h inX rfl rfl) ?_) <;> (try refine nY ?_)
        (refine t_qt 1 rfl (by kernel_rfl) rfl rfl (by exact qt_move evX) ?_) <;> (try refine nY ?_)
        (refine t_call 2 rfl (by kernel_rfl) rfl (fun S' M' w hS hM hst => root_c (l.take k).length w hst (hG.mono hS) v3 (l.take k) (hv3.mono hS) (Nat.le_refl _) (by omega)) inX rfl ?_) <;> (try refine nY ?_)
        refine v_one 3 rfl (by kernel_rfl) ?_; intro w hst K hK; refine s_lit (vs := [dgV (rootM (l.take k))]) hst inX inX rfl rfl (by simp [Value.cells, u8s_length, rootM_len]) rfl (by omega) (by omega) ?_; clear hst; intro x3 w hst; (try refine nY ?_); (try replace hst := nH hst); refine v_next hK hst (Snap.Le.refl _) (Suf.cons (Suf.refl _)) ?_; clear hst hK K; (try clear w); (try refine nY ?_)
        refine v_one 4 rfl (by kernel_rfl) ?_; intro w hst K hK; refine s_append (j := 0) hst evX evX SlIn.h rfl inX inX inX ((by simpa [Value.cells] using u8s_one (rootM (l.take k)).l)) (by omega) (by omega) (by decide) ?_; clear hst; intro x4 w hst; (try refine nY ?_); (try replace hst := nH hst); replace hst := hst.drop; have hone4 := sl_one hst; refine v_last hK hst ?_; clear hst hK K; (try clear w); (try refine nY ?_)
        refine v_one 5 rfl (by kernel_rfl) ?_; intro w hst K hK; (refine s_st1 hst rfl BoxIn.h evX asX inX (by simp <;> omega) ?_); clear hst; intro w hst; (try refine nY ?_); (try replace hst := nH hst); refine v_last hK hst ?_; clear hst hK K; (try clear w); (try refine nY ?_)
        refine v_done (by kernel_rfl) ?_; clear ops; intro w hst
        repeat' (((fail_if_success (go_big_may)); (go_step)))
        go_end0
        refine ⟨_, rfl, x4, ?_⟩
        rw [HC.out]
        show St S (.sl x4 _ 16 (c1 ++ [_]).length (cF dgC (c1 ++ [_])) :: _) _
        rw [List.length_append, cF_snoc]
        exact hst
end Go.Proofs.YtgihhhdeoaplhaaDoor

/- Package merkle: Prove, Verify, walked. -/
--@u32
--@hgp
--@flat
--@dg
namespace Go.Proofs.YtgihhhdeoaplhaaDoor
set_option linter.unusedSimpArgs false
set_option linter.unusedVariables false
open Go.RowKit Go.Sl

set_option maxRecDepth 8000 in
set_option maxHeartbeats 1000000 in
theorem prove_c {S M} (w : World) (hst : St S M w) (hG : Glob S) (vl : Value) (l : List Dg) (hl : RSl S vl l) (i : Nat) (hi : i < l.length) (hm : l.length ≤ 1000) :
    Rets Tryd.prog 29 [vl, .int .i64 (i : Int)] w fun v w' => ∃ u, v = .tuple #[u, .int .i64 0] ∧ St S (.sl u 23 16 (proofM l i).length (cF dgC (proofM l i)) :: M) w' := by
  unfold Rets
  go_enter Tryd.func29, Tryd.ntmps29
  repeat' (first | (((with_reducible refine Sl.k_guard ?_; ((refine Sl.guard_yes rfl ?_)))) <;> (try refine nY ?_)) | ((fail_if_success (go_big_may)); (go_step)) | ((first | (with_reducible refine Sl.k_load ?_; (refine s_qt hst (by exact qt_load rfl _ BoxIn.h inX rfl rfl) ?_)) | (with_reducible refine Sl.k_call ?_; (refine s_qt hst (by exact qt_len evX asX inX) ?_))) <;> (try refine nY ?_)) | (with_reducible refine Sl.gate rfl ?_; (go_step)) | ((((first | (with_reducible refine Sl.k_store ?_; (refine s_store hst rfl _ BoxIn.h inX evX rfl lenOk oneOk (by simp) ?_); clear hst; intro w hst) | (refine s_alloc hst inX ?_; clear hst; intro bk w hst)))) <;> (try refine nY ?_) <;> (try replace hst := nH hst)))
  rename Nat => b7
  have hst := hst.nil 23 16
  refine s_callv (walk_c l.length _ b7 bk (.slice none 0 0) [] hst hG vl l hl i hi (Nat.le_refl _) hm (by simp; omega)) rfl inX rfl rfl ?_
  clear hst; rintro v w ⟨u, hst⟩
  rw [List.nil_append] at hst
  have hu := sl_one hst
  refine nY ?_
  repeat' (first | ((fail_if_success (go_big_may)); (go_step)) | (((with_reducible refine Sl.k_load ?_; (refine s_qt hst (by exact qt_load rfl _ BoxIn.h inX rfl rfl) ?_))) <;> (try refine nY ?_)))
  go_ret2
  exact ⟨_, rfl, u, rfl, hst.swap.drop.swap.drop⟩

theorem prove0_c {S M} (w : World) (hst : St S M w) (vl : Value) (l : List Dg) (hl : RSl S vl l) (i : Int) (hi : i < 0 ∨ l.length ≤ i) (hm : l.length ≤ 1000) :
    Rets Tryd.prog 29 [vl, .int .i64 i] w fun v w' => v = .tuple #[.slice none 0 0, .int .i64 1] ∧ St S M w' := by
  unfold Rets
  by_cases h0 : i < 0
  · go_enter Tryd.func29, Tryd.ntmps29
    repeat' (first | go_skip | ((fail_if_success (go_big_may)); (go_step)) | (with_reducible refine Sl.gate rfl ?_; (go_step)))
    go_ret2
    exact ⟨_, rfl, rfl, hst⟩
  · have h1 : (l.length : Int) ≤ i := by omega
    go_enter Tryd.func29, Tryd.ntmps29
    repeat' (first | (((with_reducible refine Sl.k_guard ?_; ((refine Sl.guard_yes rfl ?_)))) <;> (try refine nY ?_)) | ((fail_if_success (go_big_may)); (go_step)) | (((with_reducible refine Sl.k_call ?_; (refine s_qt hst (by exact qt_len evX asX inX) ?_))) <;> (try refine nY ?_)) | (with_reducible refine Sl.gate rfl ?_; (go_step)))
    go_ret2
    exact ⟨_, rfl, rfl, hst⟩

theorem r_dg {S : Snap} {d : Dg} (h : d.l.length = 16) : Rep.R S (u8s d.l) d := by exact ⟨h, rl_u8 d.l⟩

set_option maxRecDepth 8000 in
set_option maxHeartbeats 2000000 in
theorem verify_c {S M} (w : World) (hst : St S M w) (hG : Glob S) (root leaf : Dg) (hr : root.l.length = 16) (hf : leaf.l.length = 16) (n i : Nat) (hn : n ≤ 1000) (hi : i ≤ 9223372036854775807) (vp : Value) (proof : List Dg) (hp : RSl S vp proof) (hpm : proof.length ≤ 1048576) :
    Rets Tryd.prog 35 [dgV root, .int .i64 (n : Int), .int .i64 (i : Int), dgV leaf, vp] w fun v w' => v = .bool (verifyM root n i leaf proof) ∧ St S M w' := by
  unfold Rets
  haveI : LenIs leaf.l 16 := ⟨hf⟩
  haveI : LenIs root.l 16 := ⟨hr⟩
  by_cases hin : i < n
  · have hV : Hid (verifyM root n i leaf proof = (decide ((sidesM n i).length = proof.length) && decide (foldV (sidesM n i) leaf proof = root))) := Lib.hid (by simp [verifyM, hin])
    go_enter Tryd.func35, Tryd.ntmps35
    repeat' (first | (((with_reducible refine Sl.k_guard ?_; ((refine Sl.guard_yes rfl ?_)))) <;> (try refine nY ?_)) | ((fail_if_success (go_big_may)); (go_step)) | (with_reducible refine Sl.gate rfl ?_; (go_step)) | (((((refine s_box hst evX rfl ?_; clear hst; intro bx w hst)))) <;> (try refine nY ?_) <;> (try replace hst := nH hst)))
    rename Nat => b8
    have hst := hst.nil 4 1
    go_loopw [1, 2, 11] (fun vn vi vs wr => ∃ (n' i' : Nat) (c : List Bool), i' < n' ∧ n' ≤ n ∧ i' ≤ i ∧ vn = .int .i64 n' ∧ vi = .int .i64 i' ∧ Hid (c ++ sidesM n' i' = sidesM n i) ∧ c.length + n' ≤ n + 1 ∧ vs.oneCell' = true ∧ St S (.sl vs 4 1 c.length (cF boolC c) :: .box b8 (u8s leaf.l) 23 :: .box bx (u8s root.l) 23 :: M) wr) (fun vn _ _ _ => (intOf vn).toNat)
    case atStart => exact ⟨n, i, [], hin, Nat.le_refl _, Nat.le_refl _, rfl, rfl, Lib.hid rfl, by simp, rfl, hst⟩
    case round =>
      clear hst
      obtain ⟨n', i', c, h1, h2, h3, rfl, rfl, hc, hcl, hone, hst⟩ := hrel
      by_cases hn2 : 2 ≤ n'
      · obtain ⟨hs1, hs2⟩ := splitM_spec hn2
        have hL := Lib.hid (fun h => sidesM_left (i := i') hn2 h)
        have hR := Lib.hid (fun h => sidesM_right (i := i') hn2 h)
        have hsp := fun {S M} (w : World) (hst : St S M w) => split_c w hst n' hn2 (by omega)
        generalize splitM n' = k at *
        by_cases hik : i' < k
        · repeat' (first | (((with_reducible refine Sl.k_call ?_; ((refine s_call (hsp _ hst) inX rfl ?_; clear hst; rintro v w ⟨rfl, hst⟩)))) <;> (try refine nY ?_) <;> (try replace hst := nH hst)) | ((fail_if_success (go_big_may)); (go_step)) | (with_reducible refine Sl.gate rfl ?_; (go_step)))
          refine s_lit (vs := [.bool true]) hst inX inX rfl rfl (by simp [Value.cells]) rfl (by omega) (by omega) ?_
          clear hst; intro u w hst
          refine nY ?_
          repeat' (fail)
          refine s_append (j := 0) hst evX evX SlIn.h rfl inX inX inX (by simp [Value.cells, Value.oneCell']) (by omega) (by omega) (by decide) ?_
          clear hst; intro v' w hst
          refine nY ?_
          (try replace hst := nH hst)
          replace hst := hst.drop
          repeat' (first | ((fail_if_success (go_big_may)); (go_step)) | (with_reducible refine Sl.gate rfl ?_; (go_step)))
          have hone' := sl_one hst
          go_roundw
          case rel => exact ⟨k, i', c ++ [true], hik, by omega, h3, rfl, rfl, Lib.hid (by rw [← hc.out, hL.out hik, List.append_assoc]; rfl), by simp; omega, hone', by rw [List.length_append, cF_snoc]; exact hst⟩
          case measure => simp [intOf]; omega
        · have e1 : ((n' : Int) - (k : Int)) = ((n' - k : Nat) : Int) := by omega
          have e2 : ((i' : Int) - (k : Int)) = ((i' - k : Nat) : Int) := by omega
          repeat' (first | (((with_reducible refine Sl.k_call ?_; ((refine s_call (hsp _ hst) inX rfl ?_; clear hst; rintro v w ⟨rfl, hst⟩)))) <;> (try refine nY ?_) <;> (try replace hst := nH hst)) | ((fail_if_success (go_big_may)); (go_step)) | (with_reducible refine Sl.gate rfl ?_; (go_step)))
          refine s_lit (vs := [.bool false]) hst inX inX rfl rfl (by simp [Value.cells]) rfl (by omega) (by omega) ?_
          clear hst; intro u w hst
          refine nY ?_
          repeat' (fail)
          refine s_append (j := 0) hst evX evX SlIn.h rfl inX inX inX (by simp [Value.cells, Value.oneCell']) (by omega) (by omega) (by decide) ?_
          clear hst; intro v' w hst
          refine nY ?_
          (try replace hst := nH hst)
          replace hst := hst.drop
          repeat' (first | ((fail_if_success (go_big_may)); (go_step)) | (with_reducible refine Sl.gate rfl ?_; (go_step)))
          have hone' := sl_one hst
          have E1 := Lib.hid e1
          have E2 := Lib.hid e2
          clear e1 e2
          go_roundw
          case rel => exact ⟨n' - k, i' - k, c ++ [false], by omega, by omega, by omega, by first | rfl | rw [E1.out], by first | rfl | rw [E2.out], Lib.hid (by rw [← hc.out, hR.out hik, List.append_assoc]; rfl), by simp; omega, hone', by rw [List.length_append, cF_snoc]; exact hst⟩
          case measure =>
            have := E1.out
            simp [intOf]
            omega
      · obtain rfl : n' = 1 := by omega
        obtain rfl : i' = 0 := by omega
        have hcs : Hid (c = sidesM n i) := Lib.hid (by rw [← hc.out, sidesM_one (by omega), List.append_nil])
        clear hc
        by_cases hlen : c.length = proof.length
        · have hne : ((c.length : Int) != (proof.length : Int)) = false := bne_eq_false_iff_eq.2 (by omega)
          have hV3 : Hid (verifyM root n i leaf proof = decide (((c.reverse.zip proof).take proof.length).foldl stepV (leafM leaf) = root)) := Lib.hid (by
            rw [hV.out, ← hcs.out, foldV, List.take_of_length_le (by rw [List.length_zip]; omega)]
            simp [hlen])
          have hll : c.length ≤ proof.length ∧ proof.length ≤ c.length := by omega
          have hd16 := hp.dgs
          clear hlen
          repeat' (first | (((with_reducible refine Sl.k_call ?_; ((refine s_call (leaf_c _ hst hG leaf hf) inX rfl ?_; clear hst; rintro v w ⟨rfl, hst⟩)))) <;> (try refine nY ?_) <;> (try replace hst := nH hst)) | ((fail_if_success (go_big_may)); (go_step)) | ((first | (with_reducible refine Sl.k_load ?_; (refine s_qt hst (by exact qt_loadD evX BoxIn.h inX inX) ?_)) | (with_reducible refine Sl.k_call ?_; (refine s_qt hst (by first | exact qt_len evX asX inX | exact qt_len_own evX SlIn.h inX) ?_))) <;> (try refine nY ?_)) | (with_reducible refine Sl.gate rfl ?_; (go_step)) | ((((first | (with_reducible refine Sl.k_store ?_; (refine s_stD hst rfl BoxIn.h inX evX inX lenX ?_); clear hst; intro w hst) | (refine s_alloc hst inX ?_; clear hst; intro bk w hst)))) <;> (try refine nY ?_) <;> (try replace hst := nH hst)))
          clear hne
          rename Nat => b13
          go_loopw [52] (fun v wr => ∃ (j : Nat) (d : Dg), j ≤ proof.length ∧ v = .int .i64 j ∧ Hid (d = ((c.reverse.zip proof).take j).foldl stepV (leafM leaf)) ∧ d.l.length = 16 ∧ St S (.box b13 (u8s d.l) 23 :: .sl u11 4 1 c.length (cF boolC c) :: .box b8 (u8s leaf.l) 23 :: .box bx (u8s root.l) 23 :: M) wr) (fun v _ => proof.length - (intOf v).toNat)
          case atStart => exact ⟨0, _, Nat.zero_le _, rfl, Lib.hid rfl, leafM_len _, hst⟩
          case round =>
            clear hst
            obtain ⟨j, d, hj, rfl, hd, hdl, hst⟩ := hrel
            haveI : LenIs d.l 16 := ⟨hdl⟩
            by_cases hlt : j < proof.length
            · have hpj := hd16 proof[j] (List.getElem_mem hlt)
              haveI : LenIs proof[j].l 16 := ⟨hpj⟩
              have hcj : c.length - 1 - j < c.length := by omega
              have hsd : Hid (((c.reverse.zip proof).take (j + 1)).foldl stepV (leafM leaf) = stepV d (c[c.length - 1 - j], proof[j])) := Lib.hid (by
                have hz : j < (c.reverse.zip proof).length := by rw [List.length_zip, List.length_reverse]; omega
                rw [List.take_succ_eq_append_getElem hz, List.foldl_append, ← hd.out, List.getElem_zip, List.getElem_reverse]
                rfl)
              have ej : ((c.length : Int) - 1 - (j : Int)) = ((c.length - 1 - j : Nat) : Int) := by omega
              repeat' (first | (((with_reducible refine Sl.k_call ?_; (first | (refine s_call (node_c _ hst hG d proof[j] hdl hpj) inX rfl ?_; clear hst; rintro v w ⟨rfl, hst⟩) | (refine s_call (node_c _ hst hG proof[j] d hpj hdl) inX rfl ?_; clear hst; rintro v w ⟨rfl, hst⟩)))) <;> (try refine nY ?_) <;> (try replace hst := nH hst)) | ((fail_if_success (go_big_may)); (go_step)) | ((first | (with_reducible refine Sl.k_load ?_; (first | refine s_qt hst (by first | exact qt_ldp_flat evX asX inX inX rfl | exact qt_loadD evX BoxIn.h inX inX) ?_ | refine s_qt hst (by exact qt_ldB evX asX SlIn.h inX omX) ?_)) | (with_reducible refine Sl.k_index ?_; (((first | refine s_ex hst (qt_index evX asX rfl inX inX omX omX) ?_ | refine s_ex hst (qt_index_own hst evX SlIn.h rfl inX inX omX omX) ?_); rintro v hp; (try simp only [Int.toNat_natCast, Int.toNat_natCast_add_one, Int.reduceToNat] at hp)))) | (with_reducible refine Sl.k_call ?_; (refine s_qt hst (by exact qt_len_own evX SlIn.h inX) ?_))) <;> (try refine nY ?_)) | (with_reducible refine Sl.gate rfl ?_; (go_step)) | ((((first | (with_reducible refine Sl.k_store ?_; (refine s_stD hst rfl BoxIn.h inX evX inX lenX ?_); clear hst; intro w hst) | (refine s_alloc hst inX ?_; clear hst; intro bk w hst)))) <;> (try refine nY ?_) <;> (try replace hst := nH hst)))
              all_goals
                have hb := Lib.hid (by assumption : c[c.length - 1 - j] = _)
                replace hst := hst.drop
                go_roundw
                case rel => exact ⟨j + 1, _, by omega, by go_num, Lib.hid (by rw [hsd.out, stepV, hb.out]; rfl), nodeM_len _ _, hst⟩
                case measure => simp [intOf]; omega
            · obtain rfl : j = proof.length := by omega
              repeat' (first | (((with_reducible refine Sl.k_bin ?_; ((refine s_qt hst (qt_eqlK rfl rfl (r_dg hdl) (r_dg hr) inX inX inX) ?_)))) <;> (try refine nY ?_)) | ((fail_if_success (go_big_may)); (go_step)) | (((with_reducible refine Sl.k_load ?_; (refine s_qt hst (by exact qt_loadD evX BoxIn.h inX inX) ?_))) <;> (try refine nY ?_)) | (with_reducible refine Sl.gate rfl ?_; (go_step)))
              go_ret
              exact ⟨_, rfl, by rw [hV3.out, ← hd.out]; rfl, hst.drop.drop.drop.drop⟩
        · have hV2 : Hid (verifyM root n i leaf proof = false) := Lib.hid (by rw [hV.out, ← hcs.out]; simp [hlen])
          have hne : ((c.length : Int) != (proof.length : Int)) = true := bne_iff_ne.2 (by omega)
          repeat' (first | ((fail_if_success (go_big_may)); (go_step)) | (((with_reducible refine Sl.k_call ?_; (refine s_qt hst (by first | exact qt_len evX asX inX | exact qt_len_own evX SlIn.h inX) ?_))) <;> (try refine nY ?_)) | (with_reducible refine Sl.gate rfl ?_; (go_step)))
          go_ret
          exact ⟨_, rfl, by rw [hV2.out]; rfl, hst.drop.drop.drop⟩
  · have hV : Hid (verifyM root n i leaf proof = false) := Lib.hid (by simp [verifyM, hin])
    go_enter Tryd.func35, Tryd.ntmps35
    repeat' (first | (((with_reducible refine Sl.k_guard ?_; ((refine Sl.guard_yes rfl ?_)))) <;> (try refine nY ?_)) | ((fail_if_success (go_big_may)); (go_step)) | (with_reducible refine Sl.gate rfl ?_; (go_step)) | (((((refine s_box hst evX rfl ?_; clear hst; intro bx w hst)))) <;> (try refine nY ?_) <;> (try replace hst := nH hst)))
    go_ret
    exact ⟨_, rfl, by rw [hV.out]; rfl, hst.drop.drop⟩
end Go.Proofs.YtgihhhdeoaplhaaDoor
