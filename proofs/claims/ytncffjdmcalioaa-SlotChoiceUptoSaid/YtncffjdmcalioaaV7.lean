/- Package wire: lists of digests, decoded. -/
import Derived.Test.YtncffjdmcalioaaV6
--@opt
namespace Go.Proofs.Ytncffjdmcalioaa
set_option linter.unusedSimpArgs false
set_option linter.unusedVariables false
open Go.RowKit Go.Sl

def dgC (d : Dg) : List Value := u8s d.l
def chunks : Nat → List UInt8 → List Dg
  | 0, _ => []
  | m + 1, r => ⟨r.take 16⟩ :: chunks m (r.drop 16)
theorem chunks_snoc : ∀ (i : Nat) (r : List UInt8), chunks (i + 1) r = chunks i r ++ [⟨(r.drop (16 * i)).take 16⟩]
  | 0, r => by simp [chunks]
  | i + 1, r => by
    rw [chunks, chunks_snoc i, chunks]
    simp only [List.cons_append, List.drop_drop]
    rw [show 16 + 16 * i = 16 * (i + 1) by omega]
theorem chunks_len : ∀ (i : Nat) (r : List UInt8), (chunks i r).length = i
  | 0, _ => rfl
  | i + 1, r => by simp [chunks, chunks_len i]
def getDg (b : List UInt8) : List Dg × Nat × Nat :=
  if (countP 16 b).2.2 ≠ 0 then ([], 0, (countP 16 b).2.2) else (chunks (countP 16 b).1.toNat (b.drop (countP 16 b).2.1), (countP 16 b).2.1 + 16 * (countP 16 b).1.toNat, 0)
instance key5 : Key Try.prog 5 UInt8 1 := key_u8 (by kernel_rfl)
end Go.Proofs.Ytncffjdmcalioaa
