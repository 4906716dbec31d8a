/- 32-bit words. General over the program. -/
import Derived.Test.YtmbdbfdlbbkclaaDoorSlO
import Derived.Test.YtmbdbfdlbbkclaaDoorSlY
namespace Go.Sl
set_option linter.unusedSimpArgs false
set_option linter.unusedVariables false
open Go.RowKit
variable {P : Program} {S : Snap} {M : List Chunk} {l : List Value}

instance instRepU32 : Rep UInt32 where
  z := 1
  agg := false
  R _ cs x := cs = [.int .u32 x.toNat]
  mono _ h := h
  len h := by rw [h]; rfl
  one h := by rw [h]; intro u hu; simp at hu; subst hu; rfl
  z1 _ := rfl
def u32C (x : UInt32) : List Value := [.int .u32 (x.toNat : Int)]

def shl (x : UInt32) (n : Nat) : UInt32 := ⟨x.toBitVec <<< n⟩
def shr (x : UInt32) (n : Nat) : UInt32 := ⟨x.toBitVec >>> n⟩

theorem ofInt_u32 (x : UInt32) : BitVec.ofInt 32 (x.toNat : Int) = x.toBitVec := by
  rw [BitVec.ofInt_natCast]; exact BitVec.ofNat_toNat ..
theorem wrap_u32 {n : Nat} (h : n < 4294967296) : IntKind.u32.wrap (n : Int) = n := by
  simp only [IntKind.wrap, IntKind.bits, IntKind.signed]
  simp
  omega
theorem wrap_u32_mod (n : Nat) : IntKind.u32.wrap (n : Int) = (n % 4294967296 : Nat) := by
  simp only [IntKind.wrap, IntKind.bits, IntKind.signed]
  simp
theorem bits_xor32 (a b : UInt32) : bits .xor .u32 (a.toNat : Int) (b.toNat : Int) = ((a ^^^ b).toNat : Int) := by
  show IntKind.u32.wrap ((BitVec.ofInt 32 (a.toNat : Int) ^^^ BitVec.ofInt 32 (b.toNat : Int)).toNat : Int) = _
  rw [ofInt_u32, ofInt_u32, wrap_u32 (BitVec.isLt _)]
  rfl
theorem bits_and32 (a b : UInt32) : bits .and .u32 (a.toNat : Int) (b.toNat : Int) = ((a &&& b).toNat : Int) := by
  show IntKind.u32.wrap ((BitVec.ofInt 32 (a.toNat : Int) &&& BitVec.ofInt 32 (b.toNat : Int)).toNat : Int) = _
  rw [ofInt_u32, ofInt_u32, wrap_u32 (BitVec.isLt _)]
  rfl
theorem bits_or32 (a b : UInt32) : bits .or .u32 (a.toNat : Int) (b.toNat : Int) = ((a ||| b).toNat : Int) := by
  show IntKind.u32.wrap ((BitVec.ofInt 32 (a.toNat : Int) ||| BitVec.ofInt 32 (b.toNat : Int)).toNat : Int) = _
  rw [ofInt_u32, ofInt_u32, wrap_u32 (BitVec.isLt _)]
  rfl
theorem wrap_shl (x : UInt32) (n : Nat) : IntKind.u32.wrap ((x.toNat : Int) * 2 ^ n) = ((shl x n).toNat : Int) := by
  have e : ((x.toNat : Int) * 2 ^ n) = ((x.toNat * 2 ^ n : Nat) : Int) := by push_cast; rfl
  rw [e, wrap_u32_mod]
  congr 1
  show _ = (x.toBitVec <<< n).toNat
  rw [BitVec.toNat_shiftLeft, Nat.shiftLeft_eq]
  rfl
theorem fdiv_shr (x : UInt32) (n : Nat) : Int.fdiv (x.toNat : Int) (2 ^ n) = ((shr x n).toNat : Int) := by
  have e : ((2 : Int) ^ n) = ((2 ^ n : Nat) : Int) := by push_cast; rfl
  rw [e, ← Int.ofNat_fdiv]
  congr 1
  show _ = (x.toBitVec >>> n).toNat
  rw [BitVec.toNat_ushiftRight, Nat.shiftRight_eq_div_pow]
  rfl

section
variable {T U : TypeId} {x y : Operand} {a b : UInt32}
theorem qt_xor32 (hx : evF l x = .int .u32 (a.toNat : Int)) (hy : evF l y = .int .u32 (b.toNat : Int)) : Qt P l (.binOp .xor T x y U) S M (.int .u32 ((a ^^^ b).toNat : Int)) := fun dst ty pos af w _ => by
  simp [execOp, hx, hy, eqGuard_at_int, binOp_xor, intBits_xor, bits_xor32]
theorem qt_and32 (hx : evF l x = .int .u32 (a.toNat : Int)) (hy : evF l y = .int .u32 (b.toNat : Int)) : Qt P l (.binOp .and T x y U) S M (.int .u32 ((a &&& b).toNat : Int)) := fun dst ty pos af w _ => by
  simp [execOp, hx, hy, eqGuard_at_int, binOp_and, intBits_and, bits_and32]
theorem qt_or32 (hx : evF l x = .int .u32 (a.toNat : Int)) (hy : evF l y = .int .u32 (b.toNat : Int)) : Qt P l (.binOp .or T x y U) S M (.int .u32 ((a ||| b).toNat : Int)) := fun dst ty pos af w _ => by
  simp [execOp, hx, hy, eqGuard_at_int, binOp_or, intBits_or, bits_or32]
theorem qt_add32 (hx : evF l x = .int .u32 (a.toNat : Int)) (hy : evF l y = .int .u32 (b.toNat : Int)) : Qt P l (.binOp .add T x y U) S M (.int .u32 ((a + b).toNat : Int)) := fun dst ty pos af w _ => by
  have e : IntKind.u32.wrap ((a.toNat : Int) + (b.toNat : Int)) = ((a + b).toNat : Int) := by
    rw [← Int.natCast_add, wrap_u32_mod, UInt32.toNat_add]
  simp [execOp, hx, hy, binOp_add, eqGuard_add, Op.intArith, e]
theorem qt_shl32 {k : IntKind} {n : Int} (hx : evF l x = .int .u32 (a.toNat : Int)) (hy : evF l y = .int k n) (hn : 0 ≤ n ∧ n ≤ 32) : Qt P l (.binOp .shl T x y U) S M (.int .u32 ((shl a n.toNat).toNat : Int)) := fun dst ty pos af w _ => by
  obtain ⟨m, rfl⟩ : ∃ m : Nat, n = m := ⟨n.toNat, by omega⟩
  rw [Int.toNat_natCast]
  have h0 : ¬ ((m : Int) < 0) := by omega
  have e : min m 32 = m := by omega
  have e2 := wrap_shl a m
  simp [execOp, hx, hy, eqGuard_at_int, binOp, Op.shift, IntKind.bits, e, e2]
theorem qt_shr32 {k : IntKind} {n : Int} (hx : evF l x = .int .u32 (a.toNat : Int)) (hy : evF l y = .int k n) (hn : 0 ≤ n ∧ n ≤ 32) : Qt P l (.binOp .shr T x y U) S M (.int .u32 ((shr a n.toNat).toNat : Int)) := fun dst ty pos af w _ => by
  obtain ⟨m, rfl⟩ : ∃ m : Nat, n = m := ⟨n.toNat, by omega⟩
  rw [Int.toNat_natCast]
  have h0 : ¬ ((m : Int) < 0) := by omega
  have e : min m 32 = m := by omega
  have e2 := fdiv_shr a m
  rw [Int.fdiv_eq_ediv_of_nonneg _ (Int.le_of_lt (Int.pow_pos (by decide)))] at e2
  simp [execOp, hx, hy, eqGuard_at_int, binOp, Op.shift, IntKind.bits, e, e2]
theorem qt_conv832 {b : UInt8} (hx : evF l x = .int .u8 (b.toNat : Int)) (hT : IntT P T .u8) (hU : IntT P U .u32) : Qt P l (.convert T U x) S M (.int .u32 ((UInt32.ofNat b.toNat).toNat : Int)) :=
  qt_conv_b hx hT hU (by
    have := b.toNat_lt
    rw [wrap_u32 (by omega), UInt32.toNat_ofNat_of_lt' (by have : UInt32.size = 4294967296 := rfl; omega)])
theorem qt_conv3264 (hx : evF l x = .int .u32 (a.toNat : Int)) (hT : IntT P T .u32) (hU : IntT P U .u64) : Qt P l (.convert T U x) S M (.int .u64 (a.toNat : Int)) :=
  qt_conv_b hx hT hU (by
    have := a.toNat_lt
    simp only [IntKind.wrap, IntKind.bits, IntKind.signed]
    simp
    omega)
theorem qt_not32 (hx : evF l x = .int .u32 (a.toNat : Int)) : Qt P l (.unOp .xor T x) S M (.int .u32 ((4294967295 ^^^ a : UInt32).toNat : Int)) := fun dst ty pos af w _ => by
  have e := bits_xor32 4294967295 a
  rw [show (((4294967295 : UInt32).toNat : Nat) : Int) = 4294967295 from rfl] at e
  simp [execOp, hx, unary_xor, intBits_xor, IntKind.signed, IntKind.max, IntKind.bits, e]
end

/-! ### Words in memory -/
theorem cF_u32_len (ws : List UInt32) : (cF u32C ws).length = ws.length := by
  have := cF_len (f := u32C) (z := 1) (fun _ => rfl) ws
  omega
theorem cF_u32_get (ws : List UInt32) (j : Nat) (h : j < ws.length) : ((cF u32C ws).drop j).take 1 = [.int .u32 ((ws.getD j 0).toNat : Int)] := by
  have := cF_get (f := u32C) (z := 1) (fun _ => rfl) ws j h
  rw [Nat.mul_one] at this
  rw [this, List.getD_eq_getElem?_getD, List.getElem?_eq_getElem h]
  rfl
theorem cF_u32_set (ws : List UInt32) (j : Nat) (h : j < ws.length) (y : UInt32) : (cF u32C ws).take j ++ [.int .u32 (y.toNat : Int)] ++ (cF u32C ws).drop (j + 1) = cF u32C (ws.set j y) := by
  have := cF_set (f := u32C) (z := 1) (fun _ => rfl) ws j h y
  rw [Nat.mul_one] at this
  exact this
section
variable {ops : Array Oper} {rest : List Oper} {Q : Exit → Act → World → Prop} {D : List Deferred} {w : World} {d : Tmp} {dd : Option Tmp} {ty : TypeId} {pos : String} {af : Array Edge}
theorem rfX {p : Prop} (h : p := by with_unfolding_all exact rfl) : p := h
/-- A whole box that holds an array. -/
theorem qt_loadA {T B : TypeId} {x : Operand} {zero c : List Value} {z bb b k : Nat} (hx : evF l x = .pointer (some ⟨b, 0, none⟩)) (hk : M[k]? = some (.box b c B)) (hT : Ty P T true z zero bb) (hl : c.length = z) : Qt P l (.load T x) S M (.agg c.toArray) := by
  have := qt_load (P := P) (l := l) (S := S) (cs := c) hx k hk hT (by rw [List.drop_zero, ← hl, List.take_length]) hl
  exact this
theorem qt_ldW {T B : TypeId} {x : Operand} {zero : List Value} {bb b off k : Nat} {ws : List UInt32} (hx : evF l x = .pointer (some ⟨b, off, none⟩)) (hk : M[k]? = some (.box b (cF u32C ws) B))
    (hT : Ty P T false 1 zero bb) (hl : off < ws.length) : Qt P l (.load T x) S M (.int .u32 ((ws.getD off 0).toNat : Int)) :=
  qt_load hx k hk hT (cF_u32_get ws off hl) rfl
theorem qt_ldU {T F : TypeId} {x : Operand} {zero : List Value} {bb : Nat} {v p : Value} {j k n : Nat} {ws : List UInt32} (hx : evF l x = p) (hp : PtO v p (j * 1)) (hk : M[k]? = some (.sl v F 1 n (cF u32C ws)))
    (hT : Ty P T false 1 zero bb) (hl : j < ws.length) : Qt P l (.load T x) S M (.int .u32 ((ws.getD j 0).toNat : Int)) := by
  rw [Nat.mul_one] at hp
  exact qt_load_own (S := S) hx hp hk hT (cF_u32_get ws j hl) (by rw [cF_u32_len]; omega)
theorem qt_ldp_u32 {T : TypeId} {x : Operand} {zero : List Value} {bb : Nat} {p : Value} {y : UInt32} (hx : evF l x = p) (hp : Pt S p y) (hT : Ty P T false 1 zero bb) : Qt P l (.load T x) S M (.int .u32 (y.toNat : Int)) := by
  obtain ⟨v, ⟨cs, rfl, hR⟩, hq⟩ := qt_ldp (P := P) (M := M) (l := l) hx hp hT
  obtain rfl : cs = _ := hR
  exact hq
theorem s_stW {T B : TypeId} {x y : Operand} {zero : List Value} {bb b off k : Nat} {ws : List UInt32} {u : UInt32} (hst : St S M w) (hx : evF l x = .pointer (some ⟨b, off, none⟩)) (hk : M[k]? = some (.box b (cF u32C ws) B))
    (hT : Ty P T false 1 zero bb) (hy : evF l y = .int .u32 (u.toNat : Int)) (hl : off < ws.length)
    (h : ∀ w', St S (M.set k (.box b (cF u32C (ws.set off u)) B)) w' → wpList P ops Q rest ⟨l.toArray, D⟩ w') :
    wpList P ops Q (⟨none, .store T x y, ty, pos, af, none⟩ :: rest) ⟨l.toArray, D⟩ w :=
  s_store hst hx k hk hT hy (cs := [.int .u32 (u.toNat : Int)]) rfl rfl rfl (by rw [cF_u32_len]; omega) fun w' h' => h w' (by rw [cF_u32_set ws off hl] at h'; exact h')
theorem s_stU {T F : TypeId} {x y : Operand} {zero : List Value} {bb : Nat} {v p : Value} {j k n : Nat} {ws : List UInt32} {u : UInt32} (hst : St S M w) (hx : evF l x = p) (hp : PtO v p (j * 1)) (hk : M[k]? = some (.sl v F 1 n (cF u32C ws)))
    (hT : Ty P T false 1 zero bb) (hy : evF l y = .int .u32 (u.toNat : Int)) (hl : j < ws.length)
    (h : ∀ w', St S (M.set k (.sl v F 1 n (cF u32C (ws.set j u)))) w' → wpList P ops Q rest ⟨l.toArray, D⟩ w') :
    wpList P ops Q (⟨none, .store T x y, ty, pos, af, none⟩ :: rest) ⟨l.toArray, D⟩ w := by
  rw [Nat.mul_one] at hp
  exact s_store_own hst hx hp hk hT hy (cs := [.int .u32 (u.toNat : Int)]) rfl rfl rfl (by rw [cF_u32_len]; omega) fun w' h' => h w' (by rw [cF_u32_set ws j hl] at h'; exact h')
/-- An element of an array of words that is a value. -/
theorem qt_indexW {T E : TypeId} {n : Nat} {x i : Operand} {zero : List Value} {bb : Nat} {ws : List UInt32} {k : IntKind} {j : Int} (hx : evF l x = .agg (cF u32C ws).toArray) (hi : evF l i = .int k j)
    (hT : ArrT P T n E) (hE : Ty P E false 1 zero bb) (h0 : 0 ≤ j) (hn : j.toNat < n) (hl : j.toNat < ws.length) : Qt P l (.index T x i) S M (.int .u32 ((ws.getD j.toNat 0).toNat : Int)) :=
  qt_indexV (es := [.int .u32 ((ws.getD j.toNat 0).toNat : Int)]) hx hi hT hE h0 hn (by rw [Nat.mul_one]; exact cF_u32_get ws _ hl) rfl
/-- An array literal. -/
theorem qt_buildA {T E : TypeId} {n z ze : Nat} {ps : List (Nat × Operand)} {zero zeroE : List Value} {bb be : Nat} {agg : Bool} {cs : List Value} (hT : ArrT P T n E) (hE : Ty P E agg ze zeroE be) (hZ : Ty P T true z zero bb)
    (hf : Instr.fill (fun i => some (i * ze, ze)) zero.toArray (ps.map fun q => (q.1, evF l q.2)) = some cs.toArray) : Qt P l (.build T ps.toArray) S M (.agg cs.toArray) := fun dst ty pos af w _ => by
  have hcz : (vOf true zero).cells = zero.toArray := rfl
  have e : (Array.map (fun x : Nat × Operand => (x.fst, evF l x.snd)) ps.toArray).toList = ps.map fun q => (q.1, evF l q.2) := by simp
  simp only [execOp, Instr.build, Sem.run_bind, hZ.run_zero, Result.andThen_ok, run_underlying hT.u, hE.run_sizeOf, hcz, e, hf, Sem.run_pure]
theorem zip_parts {ι : Type} {f : ι → Value} : ∀ (ps : List (Nat × ι)) (i : Nat), ps.map (·.1) = List.range' i ps.length → ps.map (fun q => (q.1, f q.2)) = ((ps.map fun q => f q.2).zipIdx i).map fun p => (p.2, p.1)
  | [], _, _ => rfl
  | p :: r, i, h => by
    rw [List.map_cons, List.length_cons, List.range'_succ] at h
    have h1 : p.1 = i := (List.cons.inj h).1
    simp only [List.map_cons, List.zipIdx_cons, h1]
    rw [zip_parts r (i + 1) (List.cons.inj h).2]
/-- An array literal of one-cell values, all given. -/
theorem qt_buildW {T E : TypeId} {n z : Nat} {ps : List (Nat × Operand)} {zero zeroE : List Value} {bb be : Nat} {cs : List Value} (hT : ArrT P T n E) (hE : Ty P E false 1 zeroE be) (hZ : Ty P T true z zero bb)
    (hi : ps.map (·.1) = List.range' 0 ps.length) (hn : ps.length = zero.length) (hv : ps.map (fun q => evF l q.2) = cs) (h1 : ∀ v ∈ cs, v.cells = #[v]) : Qt P l (.build T ps.toArray) S M (.agg cs.toArray) := by
  refine qt_buildA hT hE hZ ?_
  rw [zip_parts ps 0 hi, hv]
  have hl : cs.length = zero.length := by rw [← hv, List.length_map, hn]
  have := fill_all (z := 1) cs 0 zero (fun v hv => by rw [h1 v hv]; rfl) (by omega)
  rw [this]
  have e : (cs.map fun v => v.cells.toList).flatten = cs := by
    clear this hl hv
    induction cs with
    | nil => rfl
    | cons v r ih => rw [List.map_cons, List.flatten_cons, ih (fun u hu => h1 u (.tail _ hu)), h1 v (.head _)]; rfl
  simp [e]
theorem rl_u32_mk {S : Snap} (xs : List UInt32) : RL S (cF u32C xs) xs := by
  refine ⟨by rw [cF_u32_len]; simp [Rep.z], fun i x hx => ?_⟩
  obtain ⟨hi, rfl⟩ := List.getElem?_eq_some_iff.1 hx
  show ((cF u32C xs).drop (i * 1)).take 1 = _
  rw [Nat.mul_one, cF_u32_get xs i hi, List.getD_eq_getElem?_getD, hx]
  rfl
theorem lit_u32 {S : Snap} {M : List Chunk} {w : World} {v : Value} {n : Nat} {c : List Value} {T : TypeId} (xs : List UInt32) (h : St S (.sl v T 1 n c :: M) w) (hc : c = cF u32C xs) (hn : n = xs.length) : ∃ S', S.Le S' ∧ St S' M w ∧ RSl S' v xs := by
  subst hc
  exact St.freeze (α := UInt32) h (rl_u32_mk xs) hn
theorem k_conv {x : Operand} {T U : TypeId} {g : Option (Nat × Bool)} {a : Act} (h : wpList P ops Q (⟨dd, .convert T U x, ty, pos, af, g⟩ :: rest) a w) : wpList P ops Q (⟨dd, .convert T U x, ty, pos, af, g⟩ :: rest) a w := h
theorem s_stringI {src dst E : TypeId} {x : Operand} {v : Value} {b : List UInt8} (hst : St S M w) (hx : evF l x = v) (hv : RSl S v b) (hs : SlT P src E) (he : IntT P E .u8) (hd : StrT P dst)
    (h : wpList P ops Q rest ⟨(l.set d (.string ⟨b.toArray⟩)).toArray, D⟩ w) :
    wpList P ops Q (⟨some d, .convert src dst x, ty, pos, af, none⟩ :: rest) ⟨l.toArray, D⟩ w := s_string hst hx hv hs he.u hd.u h
theorem k_build {T : TypeId} {ps : Array (Nat × Operand)} {g : Option (Nat × Bool)} {a : Act} (h : wpList P ops Q (⟨dd, .build T ps, ty, pos, af, g⟩ :: rest) a w) : wpList P ops Q (⟨dd, .build T ps, ty, pos, af, g⟩ :: rest) a w := h
theorem k_un {x : Operand} {T : TypeId} {u : UnOp} {g : Option (Nat × Bool)} {a : Act} (h : wpList P ops Q (⟨dd, .unOp u T x, ty, pos, af, g⟩ :: rest) a w) : wpList P ops Q (⟨dd, .unOp u T x, ty, pos, af, g⟩ :: rest) a w := h
end
end Go.Sl
