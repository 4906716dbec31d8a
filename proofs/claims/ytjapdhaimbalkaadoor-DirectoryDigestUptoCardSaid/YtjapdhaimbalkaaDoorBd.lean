/- Package sha walked; SHA-256 in plain form. -/
import Derived.Lib.SliceRun
import Derived.Test.YtjapdhaimbalkaaDoorBb
import Derived.Test.YtjapdhaimbalkaaDoorBc

/- Package sha: plain mathematics: SHA-256 over lists of bytes. -/
namespace Go.Proofs.YtjapdhaimbalkaaDoor
set_option linter.unusedSimpArgs false
set_option linter.unusedVariables false
open Go.RowKit Go.Sl

def rotN (x : UInt32) (k : Nat) : UInt32 := shl x (32 - k) ||| shr x k
def rots (x : UInt32) (ns : List Nat) : UInt32 := ns.foldl (fun a k => a ^^^ rotN x k) 0
def loadW (b : List UInt8) : UInt32 := b.foldl (fun n x => shl n 8 ||| UInt32.ofNat x.toNat) 0
def sched1 (blk : List UInt8) (w : List UInt32) (i : Nat) : UInt32 :=
  if i < 16 then loadW ((blk.drop (4 * i)).take 4)
  else w.getD (i - 16) 0 + (rots (w.getD (i - 15) 0) [7, 18] ^^^ shr (w.getD (i - 15) 0) 3) + w.getD (i - 7) 0 + (rots (w.getD (i - 2) 0) [17, 19] ^^^ shr (w.getD (i - 2) 0) 10)
def sched (blk : List UInt8) : Nat → List UInt32
  | 0 => List.replicate 64 0
  | n + 1 => (sched blk n).set n (sched1 blk (sched blk n) n)
theorem sched_len (blk : List UInt8) : ∀ n, (sched blk n).length = 64
  | 0 => by simp [sched]
  | n + 1 => by rw [sched, List.length_set, sched_len blk n]

/-- The state of the hash. -/
structure S8 where
  a : UInt32
  b : UInt32
  c : UInt32
  d : UInt32
  e : UInt32
  f : UInt32
  g : UInt32
  h : UInt32
  deriving DecidableEq
def S8.l (s : S8) : List UInt32 := [s.a, s.b, s.c, s.d, s.e, s.f, s.g, s.h]

def ksT (s : S8) (k w : UInt32) : UInt32 := s.h + rots s.e [6, 11, 25] + ((s.e &&& s.f) ^^^ ((4294967295 ^^^ s.e) &&& s.g)) + k + w
def ksU (s : S8) : UInt32 := rots s.a [2, 13, 22] + (((s.a &&& s.b) ^^^ (s.a &&& s.c)) ^^^ (s.b &&& s.c))
def round1 (s : S8) (k w : UInt32) : S8 := ⟨ksT s k w + ksU s, s.a, s.b, s.c, s.d + ksT s k w, s.e, s.f, s.g⟩

def kList : List UInt32 := [
  0x428a2f98, 0x71374491, 0xb5c0fbcf, 0xe9b5dba5, 0x3956c25b, 0x59f111f1, 0x923f82a4, 0xab1c5ed5,
  0xd807aa98, 0x12835b01, 0x243185be, 0x550c7dc3, 0x72be5d74, 0x80deb1fe, 0x9bdc06a7, 0xc19bf174,
  0xe49b69c1, 0xefbe4786, 0x0fc19dc6, 0x240ca1cc, 0x2de92c6f, 0x4a7484aa, 0x5cb0a9dc, 0x76f988da,
  0x983e5152, 0xa831c66d, 0xb00327c8, 0xbf597fc7, 0xc6e00bf3, 0xd5a79147, 0x06ca6351, 0x14292967,
  0x27b70a85, 0x2e1b2138, 0x4d2c6dfc, 0x53380d13, 0x650a7354, 0x766a0abb, 0x81c2c92e, 0x92722c85,
  0xa2bfe8a1, 0xa81a664b, 0xc24b8b70, 0xc76c51a3, 0xd192e819, 0xd6990624, 0xf40e3585, 0x106aa070,
  0x19a4c116, 0x1e376c08, 0x2748774c, 0x34b0bcb5, 0x391c0cb3, 0x4ed8aa4a, 0x5b9cca4f, 0x682e6ff3,
  0x748f82ee, 0x78a5636f, 0x84c87814, 0x8cc70208, 0x90befffa, 0xa4506ceb, 0xbef9a3f7, 0xc67178f2]
def s8Start : S8 := ⟨0x6a09e667, 0xbb67ae85, 0x3c6ef372, 0xa54ff53a, 0x510e527f, 0x9b05688c, 0x1f83d9ab, 0x5be0cd19⟩

def rounds (w : List UInt32) (s : S8) : Nat → S8
  | 0 => s
  | n + 1 => round1 (rounds w s n) (kList.getD n 0) (w.getD n 0)
def add8 (s t : S8) : S8 := ⟨s.a + t.a, s.b + t.b, s.c + t.c, s.d + t.d, s.e + t.e, s.f + t.f, s.g + t.g, s.h + t.h⟩
def comp (h : S8) (blk : List UInt8) : S8 := add8 (rounds (sched blk 64) h 64) h

/-- The last m bytes of a number, the greatest first. -/
def be (n : Nat) : Nat → List UInt8
  | 0 => []
  | m + 1 => UInt8.ofNat (n / 256 ^ m) :: be n m
theorem be_len (n : Nat) : ∀ m, (be n m).length = m
  | 0 => rfl
  | m + 1 => by rw [be, List.length_cons, be_len n m]
def padZ (n : Nat) : Nat := (119 - n % 64) % 64
def pad (b : List UInt8) : List UInt8 := b ++ [128] ++ List.replicate (padZ b.length) 0 ++ be (8 * b.length) 8
theorem pad_len (b : List UInt8) : (pad b).length = b.length + 9 + padZ b.length := by
  simp [pad, be_len]; omega
theorem pad_mod (b : List UInt8) : (pad b).length % 64 = 0 := by
  rw [pad_len, padZ]; omega
def blocks (m : List UInt8) : Nat → S8
  | 0 => s8Start
  | n + 1 => comp (blocks m n) ((m.drop (64 * n)).take 64)
def out8 (s : S8) : List UInt8 := s.l.flatMap fun x => be x.toNat 4
def hash (b : List UInt8) : List UInt8 := out8 (blocks (pad b) ((pad b).length / 64))
theorem out8_len (s : S8) : (out8 s).length = 32 := by simp [out8, S8.l, be_len]
theorem hash_len (b : List UInt8) : (hash b).length = 32 := out8_len _
end Go.Proofs.YtjapdhaimbalkaaDoor

/- Package sha: the hash of given bytes, reckoned by the kernel. -/
namespace Go.Proofs.YtjapdhaimbalkaaDoor
set_option linter.unusedSimpArgs false
set_option linter.unusedVariables false
open Go.RowKit Go.Sl
section
variable {α : Type}
/-- k at n, n reckoned first. -/
def fz (n : Nat) (k : Nat → α) : α := Nat.rec (k 0) (fun m _ => k (m + 1)) n
theorem fz_eq (n : Nat) (k : Nat → α) : fz n k = k n := by cases n <;> rfl
def fzW (x : UInt32) (k : UInt32 → α) : α := fz x.toNat fun n => k (UInt32.ofNat n)
theorem fzW_eq (x : UInt32) (k : UInt32 → α) : fzW x k = k x := by rw [fzW, fz_eq, UInt32.ofNat_toNat]
def fzB (x : UInt8) (k : UInt8 → α) : α := fz x.toNat fun n => k (UInt8.ofNat n)
theorem fzB_eq (x : UInt8) (k : UInt8 → α) : fzB x k = k x := by rw [fzB, fz_eq, UInt8.ofNat_toNat]
def fzWs : List UInt32 → (List UInt32 → α) → α
  | [], k => k []
  | x :: r, k => fzW x fun x => fzWs r fun r => k (x :: r)
theorem fzWs_eq : ∀ (l : List UInt32) (k : List UInt32 → α), fzWs l k = k l
  | [], _ => rfl
  | x :: r, k => by rw [fzWs, fzW_eq, fzWs_eq r]
def fzBs : List UInt8 → (List UInt8 → α) → α
  | [], k => k []
  | x :: r, k => fzB x fun x => fzBs r fun r => k (x :: r)
theorem fzBs_eq : ∀ (l : List UInt8) (k : List UInt8 → α), fzBs l k = k l
  | [], _ => rfl
  | x :: r, k => by rw [fzBs, fzB_eq, fzBs_eq r]
def fzS (s : S8) (k : S8 → α) : α := fzW s.a fun a => fzW s.b fun b => fzW s.c fun c => fzW s.d fun d => fzW s.e fun e => fzW s.f fun f => fzW s.g fun g => fzW s.h fun h => k ⟨a, b, c, d, e, f, g, h⟩
theorem fzS_eq (s : S8) (k : S8 → α) : fzS s k = k s := by simp only [fzS, fzW_eq]
def schedK (blk : List UInt8) : Nat → (List UInt32 → α) → α
  | 0, k => fzWs (List.replicate 64 0) k
  | n + 1, k => schedK blk n fun ws => fzW (sched1 blk ws n) fun x => fzWs (ws.set n x) k
theorem schedK_eq (blk : List UInt8) : ∀ (n : Nat) (k : List UInt32 → α), schedK blk n k = k (sched blk n)
  | 0, k => by rw [schedK, fzWs_eq, sched]
  | n + 1, k => by rw [schedK, schedK_eq blk n, fzW_eq, fzWs_eq, sched]
def roundsK (w : List UInt32) (s : S8) : Nat → (S8 → α) → α
  | 0, k => fzS s k
  | n + 1, k => roundsK w s n fun s => fzW (kList.getD n 0) fun kk => fzW (w.getD n 0) fun x => fzW (ksT s kk x) fun t => fzW (ksU s) fun u => fzS ⟨t + u, s.a, s.b, s.c, s.d + t, s.e, s.f, s.g⟩ k
theorem roundsK_eq (w : List UInt32) (s : S8) : ∀ (n : Nat) (k : S8 → α), roundsK w s n k = k (rounds w s n)
  | 0, k => by rw [roundsK, fzS_eq, rounds]
  | n + 1, k => by rw [roundsK, roundsK_eq w s n, fzW_eq, fzW_eq, fzW_eq, fzW_eq, fzS_eq, rounds]; rfl
def blocksK (m : List UInt8) : Nat → (S8 → α) → α
  | 0, k => k s8Start
  | n + 1, k => blocksK m n fun s => fzBs ((m.drop (64 * n)).take 64) fun b => schedK b 64 fun w => roundsK w s 64 fun t => fzS (add8 t s) k
theorem blocksK_eq (m : List UInt8) : ∀ (n : Nat) (k : S8 → α), blocksK m n k = k (blocks m n)
  | 0, k => rfl
  | n + 1, k => by rw [blocksK, blocksK_eq m n, fzBs_eq, schedK_eq, roundsK_eq, fzS_eq]; rfl
/-- k at the hash of b. -/
def hashK (b : List UInt8) (k : List UInt8 → α) : α := fzBs (pad b) fun m => fz (m.length / 64) fun n => blocksK m n fun s => fzBs (out8 s) k
theorem hashK_eq (b : List UInt8) (k : List UInt8 → α) : hashK b k = k (hash b) := by
  rw [hashK, fzBs_eq, fz_eq, blocksK_eq, fzBs_eq]; rfl
end
set_option maxRecDepth 1000000 in
/-- The hash of "abc". -/
theorem hash_abc : hash [97, 98, 99] = [0xba, 0x78, 0x16, 0xbf, 0x8f, 0x01, 0xcf, 0xea, 0x41, 0x41, 0x40, 0xde, 0x5d, 0xae, 0x22, 0x23, 0xb0, 0x03, 0x61, 0xa3, 0x96, 0x17, 0x7a, 0x9c, 0xb4, 0x10, 0xff, 0x61, 0xf2, 0x00, 0x15, 0xad] := by
  have h : hashK [97, 98, 99] (fun l => decide (l = [0xba, 0x78, 0x16, 0xbf, 0x8f, 0x01, 0xcf, 0xea, 0x41, 0x41, 0x40, 0xde, 0x5d, 0xae, 0x22, 0x23, 0xb0, 0x03, 0x61, 0xa3, 0x96, 0x17, 0x7a, 0x9c, 0xb4, 0x10, 0xff, 0x61, 0xf2, 0x00, 0x15, 0xad])) = true := by decide +kernel
  rw [hashK_eq] at h
  exact of_decide_eq_true h
end Go.Proofs.YtjapdhaimbalkaaDoor

/- Package sha: words and bytes. -/
--@u32
--@hgp
namespace Go.Proofs.YtjapdhaimbalkaaDoor
set_option linter.unusedSimpArgs false
set_option linter.unusedVariables false
open Go.RowKit Go.Sl

theorem load_snoc (b : List UInt8) (i : Nat) (h : i < b.length) : loadW (b.take (i + 1)) = shl (loadW (b.take i)) 8 ||| UInt32.ofNat b[i].toNat := by
  rw [List.take_succ_eq_append_getElem h, loadW, List.foldl_append]
  rfl

set_option maxRecDepth 8000 in
set_option maxHeartbeats 400000 in
theorem load_c {S M} (w : World) (hst : St S M w) (vb : Value) (b : List UInt8) (hb : RSl S vb b) (hm : b.length ≤ 1048576) :
    Rets Tryd.prog 96 [vb] w fun v w' => v = .int .u32 ((loadW b).toNat : Int) ∧ St S M w' := by
  unfold Rets
  go_enter Tryd.func96, Tryd.ntmps96
  repeat' (first | ((fail_if_success (go_big_may)); (go_step)) | (((with_reducible refine Sl.k_call ?_; (refine s_qt hst (by exact qt_len evX asX inX) ?_))) <;> (try refine nY ?_)))
  go_loopw [3, 8] (fun u v wr => ∃ (i : Nat) (x : UInt32), i ≤ b.length ∧ v = .int .i64 i ∧ u = .int .u32 (x.toNat : Int) ∧ Hid (x = loadW (b.take i)) ∧ St S M wr) (fun _ v _ => b.length - (intOf v).toNat)
  case atStart => exact ⟨0, 0, Nat.zero_le _, rfl, rfl, Lib.hid rfl, hst⟩
  case round =>
    clear hst
    obtain ⟨i, x, hi, rfl, rfl, hx, hst⟩ := hrel
    by_cases hlt : i < b.length
    · repeat' (first | ((first | (with_reducible refine Sl.k_bin ?_; refine s_qt hst (by first | exact qt_or32 rfl rfl | exact qt_shl32 rfl rfl omX) ?_) | (with_reducible refine Sl.k_conv ?_; refine s_qt hst (by exact qt_conv832 rfl inX inX) ?_)) <;> (try refine nY ?_)) | ((fail_if_success (go_big_may)); (go_step)) | ((first | (with_reducible refine Sl.k_load ?_; (refine s_qt hst (by exact qt_ldp_u8 evX asX inX) ?_)) | (with_reducible refine Sl.k_index ?_; (((refine s_ex hst (qt_index evX asX rfl inX inX omX omX) ?_); rintro v hp; (try simp only [Int.toNat_natCast, Int.toNat_natCast_add_one, Int.reduceToNat] at hp))))) <;> (try refine nY ?_)) | (with_reducible refine Sl.gate rfl ?_; (go_step)))
      go_roundw
      case rel => exact ⟨i + 1, _, by omega, by go_num, rfl, Lib.hid (by rw [load_snoc b i hlt, hx.out]), hst⟩
      case measure => simp [intOf]; omega
    · repeat' (first | ((fail_if_success (go_big_may)); (go_step)) | (with_reducible refine Sl.gate rfl ?_; (go_step)))
      go_ret
      exact ⟨_, rfl, by rw [hx.out, List.take_of_length_le (by omega)]; rfl, hst⟩

theorem rotl_and : ∀ n < 32, 1 ≤ n → bits .and .u64 (IntKind.u64.wrap (-((n : Nat) : Int))) 31 = ((32 - n : Nat) : Int) := by decide +kernel

set_option maxRecDepth 8000 in
set_option maxHeartbeats 400000 in
theorem rotl_c {S M} (w : World) (hst : St S M w) (x : UInt32) (n : Nat) (h0 : 1 ≤ n) (h1 : n < 32) :
    Rets Tryd.prog 104 [.int .u32 (x.toNat : Int), .int .i64 (-(n : Int))] w fun v w' => v = .int .u32 ((rotN x n).toNat : Int) ∧ St S M w' := by
  unfold Rets
  have ha := rotl_and n h1 h0
  go_enter Tryd.func104, Tryd.ntmps104
  repeat' (first | (((with_reducible refine Sl.k_bin ?_; refine s_qt hst (by first | exact qt_or32 rfl rfl | exact qt_shl32 rfl rfl omX | exact qt_shr32 rfl rfl omX) ?_)) <;> (try refine nY ?_)) | ((fail_if_success (go_big_may)); (go_step)) | (with_reducible refine Sl.gate rfl ?_; (go_step)))
  go_ret
  exact ⟨_, rfl, by
    rw [show ((32 : Int) - ((32 - n : Nat) : Int)).toNat = n by omega]
    rfl, hst⟩

theorem rotlI_c {S M} (w : World) (hst : St S M w) (x : UInt32) (n : Int) (h0 : 1 ≤ n) (h1 : n < 32) :
    Rets Tryd.prog 104 [.int .u32 (x.toNat : Int), .int .i64 (-n)] w fun v w' => v = .int .u32 ((rotN x n.toNat).toNat : Int) ∧ St S M w' := by
  obtain ⟨m, rfl⟩ : ∃ m : Nat, n = m := ⟨n.toNat, by omega⟩
  exact rotl_c w hst x m (by omega) (by omega)

def rotsI (x : UInt32) (ns : List Int) : UInt32 := rots x (ns.map Int.toNat)
theorem rots_snoc (x : UInt32) (ns : List Int) (i : Nat) (h : i < ns.length) : rotsI x (ns.take (i + 1)) = rotsI x (ns.take i) ^^^ rotN x ns[i].toNat := by
  rw [List.take_succ_eq_append_getElem h, rotsI, rots, List.map_append, List.foldl_append]
  rfl

set_option maxRecDepth 8000 in
set_option maxHeartbeats 400000 in
theorem rotr_c {S M} (w : World) (hst : St S M w) (x : UInt32) (vn : Value) (c : List Value) (ns : List Int) {k m : Nat} (hs : SlIn M vn k 3 1 m c) (hc : c = cF intC ns) (hm : m = ns.length) (hn : ∀ n ∈ ns, 1 ≤ n ∧ n < 32) (hl : ns.length ≤ 10) :
    Rets Tryd.prog 97 [.int .u32 (x.toNat : Int), vn] w fun v w' => v = .int .u32 ((rotsI x ns).toNat : Int) ∧ St S M w' := by
  unfold Rets
  subst hc
  subst hm
  go_enter Tryd.func97, Tryd.ntmps97
  repeat' (first | ((fail_if_success (go_big_may)); (go_step)) | (((with_reducible refine Sl.k_call ?_; (refine s_qt hst (by exact qt_len_own evX SlIn.h inX) ?_))) <;> (try refine nY ?_)))
  go_loopw [5, 10] (fun u v wr => ∃ (i : Nat) (y : UInt32), i ≤ ns.length ∧ v = .int .i64 i ∧ u = .int .u32 (y.toNat : Int) ∧ Hid (y = rotsI x (ns.take i)) ∧ St S M wr) (fun _ v _ => ns.length - (intOf v).toNat)
  case atStart => exact ⟨0, 0, Nat.zero_le _, rfl, rfl, Lib.hid rfl, hst⟩
  case round =>
    clear hst
    obtain ⟨i, y, hi, rfl, rfl, hy, hst⟩ := hrel
    by_cases hlt : i < ns.length
    · obtain ⟨hb1, hb2⟩ := hn ns[i] (List.getElem_mem hlt)
      repeat' (first | (((with_reducible refine Sl.k_bin ?_; refine s_qt hst (by exact qt_xor32 rfl rfl) ?_)) <;> (try refine nY ?_)) | (((with_reducible refine Sl.k_call ?_; ((refine s_call (rotlI_c _ hst x ns[i] hb1 hb2) inX rfl ?_; clear hst; rintro v w ⟨rfl, hst⟩)))) <;> (try refine nY ?_) <;> (try replace hst := nH hst)) | ((fail_if_success (go_big_may)); (go_step)) | ((first | (with_reducible refine Sl.k_load ?_; (refine s_qt hst (by exact qt_ldI evX asX SlIn.h inX omX) ?_)) | (with_reducible refine Sl.k_index ?_; (((refine s_ex hst (qt_index_own hst evX SlIn.h rfl inX inX omX omX) ?_); rintro v hp; (try simp only [Int.toNat_natCast, Int.toNat_natCast_add_one, Int.reduceToNat] at hp))))) <;> (try refine nY ?_)) | (with_reducible refine Sl.gate rfl ?_; (go_step)))
      go_roundw
      case rel => exact ⟨i + 1, _, by omega, by go_num, rfl, Lib.hid (by rw [rots_snoc x ns i hlt, hy.out]), hst⟩
      case measure => simp [intOf]; omega
    · repeat' (first | ((fail_if_success (go_big_may)); (go_step)) | (with_reducible refine Sl.gate rfl ?_; (go_step)))
      go_ret
      exact ⟨_, rfl, by rw [hy.out, List.take_of_length_le (by omega)]; rfl, hst⟩

theorem be_succ (n m : Nat) : be n (m + 1) = UInt8.ofNat (n / 256 ^ m) :: be n m := rfl
theorem shr_byte (n i : Nat) : ((n : Int) / 2 ^ (8 * i) % 256) = ((UInt8.ofNat (n / 256 ^ i)).toNat : Int) := by
  have e2 : ((2 : Int) ^ (8 * i)) = ((256 ^ i : Nat) : Int) := by
    rw [show (256 : Nat) = 2 ^ 8 from rfl, ← Nat.pow_mul]
    push_cast
    rfl
  rw [e2, ← Int.natCast_ediv, UInt8.toNat_ofNat']
  rfl

set_option maxRecDepth 8000 in
set_option maxHeartbeats 400000 in
theorem store_c {S M} (w : World) (vb : Value) (b : List UInt8) (n : Nat) (hst : St S (.sl vb 5 1 b.length (u8s b) :: M) w) (N many : Nat) (hN : N < 18446744073709551616) (hk : many ≤ 8) (hn : n + many ≤ 16777216) (hb : b.length ≤ n) :
    Rets Tryd.prog 83 [vb, .int .u64 (N : Int), .int .i64 (many : Int)] w fun v w' => St S (.sl v 5 1 (b ++ be N many).length (u8s (b ++ be N many)) :: M) w' := by
  unfold Rets
  have h1 := sl_one hst
  go_enter Tryd.func83, Tryd.ntmps83
  repeat' (first | ((fail_if_success (go_big_may)); (go_step)) | (with_reducible refine Sl.gate rfl ?_; (go_step)))
  go_loopw [0, 7] (fun va v wr => ∃ (j : Nat) (k : Int) (c : List UInt8), j ≤ many ∧ v = .int .i64 k ∧ k = (j : Int) - 1 ∧ Hid (c ++ be N j = b ++ be N many) ∧ c.length + j ≤ n + many ∧ va.oneCell' = true ∧ St S (.sl va 5 1 c.length (u8s c) :: M) wr) (fun _ v _ => (intOf v + 1).toNat)
  case atStart => exact ⟨many, _, b, by omega, rfl, by omega, Lib.hid rfl, by omega, h1, hst⟩
  case round =>
    clear hst
    obtain ⟨j, k, c, hj, rfl, hk', hc, hcl, h2, hst⟩ := hrel
    rcases Nat.eq_zero_or_pos j with rfl | hj0
    · obtain rfl : k = -1 := by omega
      clear hk'
      repeat' (first | ((fail_if_success (go_big_may)); (go_step)) | (with_reducible refine Sl.gate rfl ?_; (go_step)))
      go_ret
      have e : c = b ++ be N many := by rw [← hc.out]; simp [be]
      subst e
      exact ⟨_, rfl, hst⟩
    · obtain ⟨i, rfl⟩ : ∃ i, j = i + 1 := ⟨j - 1, by omega⟩
      obtain rfl : k = (i : Int) := by omega
      clear hk'
      repeat' (first | ((fail_if_success (go_big_may)); (go_step)) | (with_reducible refine Sl.gate rfl ?_; (go_step)))
      refine s_lit (vs := [.int .u8 ((N : Int) / 2 ^ (8 * i) % 256)]) hst inX inX rfl rfl (by simp [Value.cells]) rfl (by omega) (by omega) ?_
      clear hst; intro u w hst
      refine nY ?_
      repeat' (fail)
      refine s_append (j := 0) hst evX evX SlIn.h rfl inX inX inX (by simp [Value.cells, Value.oneCell']) (by omega) (by omega) (by decide) ?_
      clear hst; intro v' w hst
      refine nY ?_
      (try replace hst := nH hst)
      replace hst := hst.drop
      repeat' (first | ((fail_if_success (go_big_may)); (go_step)) | (with_reducible refine Sl.gate rfl ?_; (go_step)))
      have h3 := sl_one hst
      go_roundw
      case rel => exact ⟨i, _, c ++ [UInt8.ofNat (N / 256 ^ i)], by omega, rfl, by omega, Lib.hid (by rw [← hc.out, be_succ]; simp), by simp; omega, h3, by rw [List.length_append, u8s_snoc, ← shr_byte]; exact hst⟩
      case measure => simp [intOf]
end Go.Proofs.YtjapdhaimbalkaaDoor

/- Package sha: one block. -/
--@u32
--@hgp
--@flat
namespace Go.Proofs.YtjapdhaimbalkaaDoor
set_option linter.unusedSimpArgs false
set_option linter.unusedVariables false
open Go.RowKit Go.Sl

instance flatArrW {n : Nat} : FlatC (Arr UInt32 n) (fun a => cF u32C a.l) := ⟨fun {S cs x} h => by
  obtain ⟨_, h1, h2⟩ := h
  have hz : Rep.z UInt32 = 1 := rfl
  rw [hz, Nat.mul_one] at h1
  apply List.ext_getElem?
  intro j
  rcases Nat.lt_or_ge j x.l.length with hj | hj
  · have e1 := h2 j _ (List.getElem?_eq_getElem hj)
    rw [hz, Nat.mul_one] at e1
    have e2 := cF_u32_get x.l j hj
    have e3 : (cs.drop j).take 1 = ((cF u32C x.l).drop j).take 1 := by
      rw [e2, List.getD_eq_getElem?_getD, List.getElem?_eq_getElem hj]
      exact e1
    have e4 := congrArg (·[0]?) e3
    simpa [List.getElem?_take, List.getElem?_drop] using e4
  · rw [List.getElem?_eq_none (by omega), List.getElem?_eq_none (by rw [cF_u32_len]; omega)]⟩

/-- A state of the hash, as a value. -/
abbrev s8C (s : S8) : List Value := [.int .u32 (s.a.toNat : Int), .int .u32 (s.b.toNat : Int), .int .u32 (s.c.toNat : Int), .int .u32 (s.d.toNat : Int), .int .u32 (s.e.toNat : Int), .int .u32 (s.f.toNat : Int), .int .u32 (s.g.toNat : Int), .int .u32 (s.h.toNat : Int)]
abbrev s8V (s : S8) : Value := .agg (s8C s).toArray
theorem s8C_eq (s : S8) : s8C s = cF u32C s.l := rfl

theorem rotr_q {S' : Snap} {M M' : List Chunk} (w : World) (hM : Suf M M') (hst : St S' M' w) (x : UInt32) (vn : Value) (c : List Value) (ns : List Int) {k m : Nat} (hs : SlIn M vn k 3 1 m c) (hc : c = cF intC ns) (hm : m = ns.length) (hn : ∀ n ∈ ns, 1 ≤ n ∧ n < 32) (hl : ns.length ≤ 10) :
    Rets Tryd.prog 97 [.int .u32 (x.toNat : Int), vn] w fun v w' => v = .int .u32 ((rotsI x ns).toNat : Int) ∧ St S' M' w' :=
  let ⟨_, i⟩ := hM.slIn hs
  rotr_c w hst x vn c ns i hc hm hn hl

def addN (h : List UInt32) : Nat → List UInt32 → List UInt32
  | 0, v => v
  | n + 1, v => (addN h n v).set n ((addN h n v).getD n 0 + h.getD n 0)

set_option maxRecDepth 100000 in
theorem zero64 (blk : List UInt8) : cF u32C (sched blk 0) = List.replicate 64 (.int .u32 0) := rfl

set_option maxRecDepth 100000 in
set_option maxHeartbeats 4000000 in
theorem compress_c {S M} (w : World) (hst : St S M w) (hK : Pt S (.pointer (some ⟨1, 0, none⟩)) (⟨kList⟩ : Arr UInt32 64)) (h : S8) (vb : Value) (blk : List UInt8) (hb : RSl S vb blk) (hl : blk.length = 64) :
    Rets Tryd.prog 84 [s8V h, vb] w fun v w' => v = s8V (comp h blk) ∧ St S M w' := by
  unfold Rets
  have h64 : 64 ≤ blk.length ∧ blk.length ≤ 64 := by omega
  clear hl
  go_enter Tryd.func84, Tryd.ntmps84
  repeat' (first | ((fail_if_success (go_big_may)); (go_step)) | ((((first | (refine s_box hst evX rfl ?_; clear hst; intro bx w hst) | (refine s_alloc hst inX ?_; clear hst; intro bk w hst)))) <;> (try refine nY ?_) <;> (try replace hst := nH hst)))
  rename_i b4 _ _ _
  have hst : St S (.box bk (cF u32C (sched blk 0)) 113 :: .box b4 (s8C ⟨0, 0, 0, 0, 0, 0, 0, 0⟩) 98 :: .box bx (s8C h) 98 :: M) w := by rw [zero64]; exact hst
  go_loopw [15] (fun v wr => ∃ (i : Nat) (ws : List UInt32), i ≤ 64 ∧ v = .int .i64 i ∧ Hid (ws = sched blk i) ∧ (64 ≤ ws.length ∧ ws.length ≤ 64) ∧ St S (.box bk (cF u32C ws) 113 :: .box b4 (s8C ⟨0, 0, 0, 0, 0, 0, 0, 0⟩) 98 :: .box bx (s8C h) 98 :: M) wr) (fun v _ => 64 - (intOf v).toNat)
  case atStart => exact ⟨0, _, by omega, rfl, Lib.hid rfl, by rw [sched_len]; omega, hst⟩
  case round =>
    clear hst
    obtain ⟨i, ws, hi, rfl, hws, hwl, hst⟩ := hrel
    by_cases hlt : i < 64
    · by_cases h16 : i < 16
      · repeat' (first | ((fail_if_success (go_big_may)); (go_step)) | (with_reducible refine Sl.gate rfl ?_; (go_step)))
        refine s_slice (a := 4 * i) (b := 4 * i + 4) evX hb inX inX (.inr ⟨.i64, by simp [evF, nth]⟩) (.inr ⟨.i64, by simp [evF, nth]⟩) (.inl rfl) (by omega) (by omega) ?_
        intro vs hvs
        refine nY ?_
        repeat' (first | (((with_reducible refine Sl.k_call ?_; ((refine s_call (load_c _ hst vs _ hvs (by simp; omega)) inX rfl ?_; clear hst; rintro v w ⟨rfl, hst⟩)))) <;> (try refine nY ?_) <;> (try replace hst := nH hst)) | ((fail_if_success (go_big_may)); (go_step)) | (((with_reducible refine Sl.k_index ?_; (refine s_qt hst (qt_indexA rfl rfl inX inX omX omX) ?_))) <;> (try refine nY ?_)) | (with_reducible refine Sl.gate rfl ?_; (go_step)) | (((((with_reducible refine Sl.k_store ?_; (refine s_stW hst rfl BoxIn.h inX evX omX ?_); clear hst; intro w hst)))) <;> (try refine nY ?_) <;> (try replace hst := nH hst)))
        go_roundw
        case rel => exact ⟨i + 1, _, by omega, by go_num, Lib.hid (by rw [sched, ← hws.out, sched1, if_pos h16, Nat.add_sub_cancel_left]), by rw [List.length_set]; omega, hst⟩
        case measure => simp [intOf]; omega
      · repeat' (first | ((fail_if_success (go_big_may)); (go_step)) | (with_reducible refine Sl.gate rfl ?_; (go_step)))
        refine region_quiet hst (by kernel_rfl) (by kernel_rfl) ?_
        repeat (((first | (with_reducible refine Sl.kq_load ?_; (refine q_qt (by exact qt_ldW evX BoxIn.h inX omX) ?_)) | (with_reducible refine Sl.kq_index ?_; (refine q_qt (qt_indexA rfl rfl inX inX omX omX) ?_)) | (refine Sl.kq_plain rfl ?_; (refine q_qt (by first | exact qt_move evX | exact qt_sub' rfl rfl omX) ?_))) <;> (try refine nY ?_)))
        refine q_nil ?_; clear hst; intro w hst
        repeat' (((fail_if_success (go_big_may)); (go_step)))
        refine v_begin hst (by kernel_rfl) ?_; clear hst; intro ops; (try refine nY ?_)
        (refine t_qt 0 rfl (by kernel_rfl) rfl rfl (by exact qt_move evX) ?_) <;> (try refine nY ?_)
        (refine t_qt 1 rfl (by kernel_rfl) rfl rfl (by exact qt_move evX) ?_) <;> (try refine nY ?_)
        (refine t_qt 2 rfl (by kernel_rfl) rfl rfl (by exact qt_sub' rfl rfl omX) ?_) <;> (try refine nY ?_)
        (refine t_qt 3 rfl (by kernel_rfl) rfl rfl (by exact qt_indexA rfl rfl inX inX omX omX) ?_) <;> (try refine nY ?_)
        (refine t_qt 4 rfl (by kernel_rfl) rfl rfl (by exact qt_ldW evX BoxIn.h inX omX) ?_) <;> (try refine nY ?_)
        (refine t_qt 5 rfl (by kernel_rfl) rfl rfl (by exact qt_move evX) ?_) <;> (try refine nY ?_)
        (refine t_qt 8 rfl (by kernel_rfl) rfl rfl (by exact qt_move evX) ?_) <;> (try refine nY ?_)
        (refine t_qt 9 rfl (by kernel_rfl) rfl rfl (by exact qt_shr32 rfl rfl omX) ?_) <;> (try refine nY ?_)
        (refine t_qt 12 rfl (by kernel_rfl) rfl rfl (by exact qt_move evX) ?_) <;> (try refine nY ?_)
        (refine t_qt 13 rfl (by kernel_rfl) rfl rfl (by exact qt_sub' rfl rfl omX) ?_) <;> (try refine nY ?_)
        (refine t_qt 14 rfl (by kernel_rfl) rfl rfl (by exact qt_indexA rfl rfl inX inX omX omX) ?_) <;> (try refine nY ?_)
        (refine t_qt 15 rfl (by kernel_rfl) rfl rfl (by exact qt_ldW evX BoxIn.h inX omX) ?_) <;> (try refine nY ?_)
        (refine t_qt 17 rfl (by kernel_rfl) rfl rfl (by exact qt_move evX) ?_) <;> (try refine nY ?_)
        (refine t_qt 20 rfl (by kernel_rfl) rfl rfl (by exact qt_move evX) ?_) <;> (try refine nY ?_)
        (refine t_qt 21 rfl (by kernel_rfl) rfl rfl (by exact qt_shr32 rfl rfl omX) ?_) <;> (try refine nY ?_)
        refine v_two 6 18 rfl rfl (by kernel_rfl) ?_ ?_
        intro w hst K hK; refine s_lit (vs := [.int .i64 7, .int .i64 18]) hst inX inX rfl rfl (by simp [Value.cells]) rfl (by omega) (by omega) ?_; clear hst; intro x6 w hst; (try refine nY ?_); (try replace hst := nH hst); refine v_next hK hst (Snap.Le.refl _) (Suf.cons (Suf.refl _)) ?_; clear hst hK K; (try clear w); (try refine nY ?_)
        (refine t_call 7 rfl (by kernel_rfl) rfl (fun S' M' w hS hM hst => rotr_q w hM hst _ x6 _ [7, 18] inX (by rfl) (by rfl) (by decide) (by decide)) inX rfl ?_) <;> (try refine nY ?_)
        (refine t_qt 10 rfl (by kernel_rfl) rfl rfl (by exact qt_xor32 rfl rfl) ?_) <;> (try refine nY ?_)
        (refine t_qt 11 rfl (by kernel_rfl) rfl rfl (by exact qt_add32 rfl rfl) ?_) <;> (try refine nY ?_)
        (refine t_qt 16 rfl (by kernel_rfl) rfl rfl (by exact qt_add32 rfl rfl) ?_) <;> (try refine nY ?_)
        refine v_one 18 rfl (by kernel_rfl) ?_; intro w hst K hK; refine s_lit (vs := [.int .i64 17, .int .i64 19]) hst inX inX rfl rfl (by simp [Value.cells]) rfl (by omega) (by omega) ?_; clear hst; intro x18 w hst; (try refine nY ?_); (try replace hst := nH hst); refine v_next hK hst (Snap.Le.refl _) (Suf.cons (Suf.refl _)) ?_; clear hst hK K; (try clear w); (try refine nY ?_)
        (refine t_call 19 rfl (by kernel_rfl) rfl (fun S' M' w hS hM hst => rotr_q w hM hst _ x18 _ [17, 19] inX (by rfl) (by rfl) (by decide) (by decide)) inX rfl ?_) <;> (try refine nY ?_)
        (refine t_qt 22 rfl (by kernel_rfl) rfl rfl (by exact qt_xor32 rfl rfl) ?_) <;> (try refine nY ?_)
        (refine t_qt 23 rfl (by kernel_rfl) rfl rfl (by exact qt_add32 rfl rfl) ?_) <;> (try refine nY ?_)
        (refine t_qt 24 rfl (by kernel_rfl) rfl rfl (by exact qt_indexA rfl rfl inX inX omX omX) ?_) <;> (try refine nY ?_)
        refine v_one 25 rfl (by kernel_rfl) ?_; intro w hst K hK; (refine s_stW hst rfl BoxIn.h inX evX omX ?_); clear hst; intro w hst; (try refine nY ?_); (try replace hst := nH hst); refine v_last hK hst ?_; clear hst hK K; (try clear w); (try refine nY ?_)
        refine v_done (by kernel_rfl) ?_; clear ops; intro w hst; rotate_left
        intro w hst K hK; refine s_lit (vs := [.int .i64 17, .int .i64 19]) hst inX inX rfl rfl (by simp [Value.cells]) rfl (by omega) (by omega) ?_; clear hst; intro x18 w hst; (try refine nY ?_); (try replace hst := nH hst); refine v_next hK hst (Snap.Le.refl _) (Suf.cons (Suf.refl _)) ?_; clear hst hK K; (try clear w); (try refine nY ?_)
        refine v_one 6 rfl (by kernel_rfl) ?_; intro w hst K hK; refine s_lit (vs := [.int .i64 7, .int .i64 18]) hst inX inX rfl rfl (by simp [Value.cells]) rfl (by omega) (by omega) ?_; clear hst; intro x6 w hst; (try refine nY ?_); (try replace hst := nH hst); refine v_next hK hst (Snap.Le.refl _) (Suf.cons (Suf.refl _)) ?_; clear hst hK K; (try clear w); (try refine nY ?_)
        (refine t_call 7 rfl (by kernel_rfl) rfl (fun S' M' w hS hM hst => rotr_q w hM hst _ x6 _ [7, 18] inX (by rfl) (by rfl) (by decide) (by decide)) inX rfl ?_) <;> (try refine nY ?_)
        (refine t_qt 10 rfl (by kernel_rfl) rfl rfl (by exact qt_xor32 rfl rfl) ?_) <;> (try refine nY ?_)
        (refine t_qt 11 rfl (by kernel_rfl) rfl rfl (by exact qt_add32 rfl rfl) ?_) <;> (try refine nY ?_)
        (refine t_qt 16 rfl (by kernel_rfl) rfl rfl (by exact qt_add32 rfl rfl) ?_) <;> (try refine nY ?_)
        (refine t_call 19 rfl (by kernel_rfl) rfl (fun S' M' w hS hM hst => rotr_q w hM hst _ x18 _ [17, 19] inX (by rfl) (by rfl) (by decide) (by decide)) inX rfl ?_) <;> (try refine nY ?_)
        (refine t_qt 22 rfl (by kernel_rfl) rfl rfl (by exact qt_xor32 rfl rfl) ?_) <;> (try refine nY ?_)
        (refine t_qt 23 rfl (by kernel_rfl) rfl rfl (by exact qt_add32 rfl rfl) ?_) <;> (try refine nY ?_)
        (refine t_qt 24 rfl (by kernel_rfl) rfl rfl (by exact qt_indexA rfl rfl inX inX omX omX) ?_) <;> (try refine nY ?_)
        refine v_one 25 rfl (by kernel_rfl) ?_; intro w hst K hK; (refine s_stW hst rfl BoxIn.h inX evX omX ?_); clear hst; intro w hst; (try refine nY ?_); (try replace hst := nH hst); refine v_last hK hst ?_; clear hst hK K; (try clear w); (try refine nY ?_)
        refine v_done (by kernel_rfl) ?_; clear ops; intro w hst; rotate_left
        all_goals
          repeat' (first | ((fail_if_success (go_big_may)); (go_step)) | (with_reducible refine Sl.gate rfl ?_; (go_step)))
          replace hst := hst.drop.drop
          have e15 : ((i : Int) - 15).toNat = i - 15 := by omega
          have e2 : ((i : Int) - 2).toNat = i - 2 := by omega
          have e16 : ((i : Int) - 16).toNat = i - 16 := by omega
          have e7 : ((i : Int) - 7).toNat = i - 7 := by omega
          rw [e15, e2, e16, e7] at hst
          have E := Lib.hid e15
          clear e15 e2 e16 e7
          go_roundw
          case rel => exact ⟨i + 1, _, by omega, by go_num, Lib.hid (by rw [sched, ← hws.out, sched1, if_neg h16]; rfl), by rw [List.length_set]; omega, hst⟩
          case measure => simp [intOf]; omega
    · obtain rfl : i = 64 := by omega
      rename Nat => b5
      repeat' (first | ((fail_if_success (go_big_may)); (go_step)) | (((with_reducible refine Sl.k_load ?_; (refine s_qt hst (by first | exact qt_loadA evX BoxIn.h inX rfX | exact qt_ldp_flat evX asX inX inX rfl) ?_))) <;> (try refine nY ?_)) | (with_reducible refine Sl.gate rfl ?_; (go_step)) | ((((first | (with_reducible refine Sl.k_store ?_; (refine s_store hst rfl _ BoxIn.h inX evX rfl lenOk oneOk (by simp) ?_); clear hst; intro w hst) | (refine s_alloc hst inX ?_; clear hst; intro bk w hst)))) <;> (try refine nY ?_) <;> (try replace hst := nH hst)))
      clear hi hlt
      go_loopw [66] (fun v wr => ∃ (i : Nat) (s : S8), i ≤ 64 ∧ v = .int .i64 i ∧ Hid (s = rounds ws h i) ∧ St S (.box bk (s8C s) 98 :: .box b5 (cF u32C ws) 113 :: .box b4 (s8C ⟨0, 0, 0, 0, 0, 0, 0, 0⟩) 98 :: .box bx (s8C h) 98 :: M) wr) (fun v _ => 64 - (intOf v).toNat)
      case atStart => exact ⟨0, _, by omega, rfl, Lib.hid rfl, hst⟩
      case round =>
        clear hst
        obtain ⟨i, s, hi, rfl, hs, hst⟩ := hrel
        by_cases hlt : i < 64
        · have hkl : i < kList.length := hlt
          repeat' (first | (((with_reducible refine Sl.k_indexV ?_; refine s_qt hst (by exact qt_indexW evX rfl inX inX omX omX omX) ?_)) <;> (try refine nY ?_)) | ((fail_if_success (go_big_may)); (go_step)) | (with_reducible refine Sl.gate rfl ?_; (go_step)))
          refine v_begin hst (by kernel_rfl) ?_; clear hst; intro ops; (try refine nY ?_)
          (refine t_qt 0 rfl (by kernel_rfl) rfl rfl (by exact qt_indexA rfl rfl inX inX omX omX) ?_) <;> (try refine nY ?_)
          (refine t_qt 1 rfl (by kernel_rfl) rfl rfl (by exact qt_load rfl _ BoxIn.h inX rfl rfl) ?_) <;> (try refine nY ?_)
          (refine t_qt 2 rfl (by kernel_rfl) rfl rfl (by exact qt_indexA rfl rfl inX inX omX omX) ?_) <;> (try refine nY ?_)
          (refine t_qt 3 rfl (by kernel_rfl) rfl rfl (by exact qt_load rfl _ BoxIn.h inX rfl rfl) ?_) <;> (try refine nY ?_)
          (refine t_qt 7 rfl (by kernel_rfl) rfl rfl (by exact qt_indexA rfl rfl inX inX omX omX) ?_) <;> (try refine nY ?_)
          (refine t_qt 8 rfl (by kernel_rfl) rfl rfl (by exact qt_load rfl _ BoxIn.h inX rfl rfl) ?_) <;> (try refine nY ?_)
          (refine t_qt 9 rfl (by kernel_rfl) rfl rfl (by exact qt_indexA rfl rfl inX inX omX omX) ?_) <;> (try refine nY ?_)
          (refine t_qt 10 rfl (by kernel_rfl) rfl rfl (by exact qt_load rfl _ BoxIn.h inX rfl rfl) ?_) <;> (try refine nY ?_)
          (refine t_qt 11 rfl (by kernel_rfl) rfl rfl (by exact qt_and32 rfl rfl) ?_) <;> (try refine nY ?_)
          (refine t_qt 12 rfl (by kernel_rfl) rfl rfl (by exact qt_indexA rfl rfl inX inX omX omX) ?_) <;> (try refine nY ?_)
          (refine t_qt 13 rfl (by kernel_rfl) rfl rfl (by exact qt_load rfl _ BoxIn.h inX rfl rfl) ?_) <;> (try refine nY ?_)
          (refine t_qt 14 rfl (by kernel_rfl) rfl rfl (by exact qt_not32 rfl) ?_) <;> (try refine nY ?_)
          (refine t_qt 15 rfl (by kernel_rfl) rfl rfl (by exact qt_indexA rfl rfl inX inX omX omX) ?_) <;> (try refine nY ?_)
          (refine t_qt 16 rfl (by kernel_rfl) rfl rfl (by exact qt_load rfl _ BoxIn.h inX rfl rfl) ?_) <;> (try refine nY ?_)
          (refine t_qt 17 rfl (by kernel_rfl) rfl rfl (by exact qt_and32 rfl rfl) ?_) <;> (try refine nY ?_)
          (refine t_qt 18 rfl (by kernel_rfl) rfl rfl (by exact qt_xor32 rfl rfl) ?_) <;> (try refine nY ?_)
          (refine t_qt 20 rfl (by kernel_rfl) rfl rfl (by exact qt_move evX) ?_) <;> (try refine nY ?_)
          (refine t_qt 22 rfl (by kernel_rfl) rfl rfl (by exact qt_move evX) ?_) <;> (try refine nY ?_)
          (refine t_qt 23 rfl (by kernel_rfl) rfl rfl (by exact qt_indexA rfl rfl inX inX omX omX) ?_) <;> (try refine nY ?_)
          (refine t_qt 24 rfl (by kernel_rfl) rfl rfl (by exact qt_ldW evX BoxIn.h inX omX) ?_) <;> (try refine nY ?_)
          refine v_one 4 rfl (by kernel_rfl) ?_; intro w hst K hK; refine s_lit (vs := [.int .i64 6, .int .i64 11, .int .i64 25]) hst inX inX rfl rfl (by simp [Value.cells]) rfl (by omega) (by omega) ?_; clear hst; intro x4 w hst; (try refine nY ?_); (try replace hst := nH hst); refine v_next hK hst (Snap.Le.refl _) (Suf.cons (Suf.refl _)) ?_; clear hst hK K; (try clear w); (try refine nY ?_)
          (refine t_call 5 rfl (by kernel_rfl) rfl (fun S' M' w hS hM hst => rotr_q w hM hst _ x4 _ [6, 11, 25] inX (by rfl) (by rfl) (by decide) (by decide)) inX rfl ?_) <;> (try refine nY ?_)
          (refine t_qt 6 rfl (by kernel_rfl) rfl rfl (by exact qt_add32 rfl rfl) ?_) <;> (try refine nY ?_)
          (refine t_qt 19 rfl (by kernel_rfl) rfl rfl (by exact qt_add32 rfl rfl) ?_) <;> (try refine nY ?_)
          (refine t_qt 21 rfl (by kernel_rfl) rfl rfl (by exact qt_add32 rfl rfl) ?_) <;> (try refine nY ?_)
          (refine t_qt 25 rfl (by kernel_rfl) rfl rfl (by exact qt_add32 rfl rfl) ?_) <;> (try refine nY ?_)
          (refine t_qt 26 rfl (by kernel_rfl) rfl rfl (by exact qt_assign evX) ?_) <;> (try refine nY ?_)
          refine v_done (by kernel_rfl) ?_; clear ops; intro w hst
          replace hst := hst.drop
          repeat' (((fail_if_success (go_big_may)); (go_step)))
          refine v_begin hst (by kernel_rfl) ?_; clear hst; intro ops; (try refine nY ?_)
          (refine t_qt 0 rfl (by kernel_rfl) rfl rfl (by exact qt_indexA rfl rfl inX inX omX omX) ?_) <;> (try refine nY ?_)
          (refine t_qt 1 rfl (by kernel_rfl) rfl rfl (by exact qt_load rfl _ BoxIn.h inX rfl rfl) ?_) <;> (try refine nY ?_)
          (refine t_qt 4 rfl (by kernel_rfl) rfl rfl (by exact qt_indexA rfl rfl inX inX omX omX) ?_) <;> (try refine nY ?_)
          (refine t_qt 5 rfl (by kernel_rfl) rfl rfl (by exact qt_load rfl _ BoxIn.h inX rfl rfl) ?_) <;> (try refine nY ?_)
          (refine t_qt 6 rfl (by kernel_rfl) rfl rfl (by exact qt_indexA rfl rfl inX inX omX omX) ?_) <;> (try refine nY ?_)
          (refine t_qt 7 rfl (by kernel_rfl) rfl rfl (by exact qt_load rfl _ BoxIn.h inX rfl rfl) ?_) <;> (try refine nY ?_)
          (refine t_qt 8 rfl (by kernel_rfl) rfl rfl (by exact qt_and32 rfl rfl) ?_) <;> (try refine nY ?_)
          (refine t_qt 9 rfl (by kernel_rfl) rfl rfl (by exact qt_indexA rfl rfl inX inX omX omX) ?_) <;> (try refine nY ?_)
          (refine t_qt 10 rfl (by kernel_rfl) rfl rfl (by exact qt_load rfl _ BoxIn.h inX rfl rfl) ?_) <;> (try refine nY ?_)
          (refine t_qt 11 rfl (by kernel_rfl) rfl rfl (by exact qt_indexA rfl rfl inX inX omX omX) ?_) <;> (try refine nY ?_)
          (refine t_qt 12 rfl (by kernel_rfl) rfl rfl (by exact qt_load rfl _ BoxIn.h inX rfl rfl) ?_) <;> (try refine nY ?_)
          (refine t_qt 13 rfl (by kernel_rfl) rfl rfl (by exact qt_and32 rfl rfl) ?_) <;> (try refine nY ?_)
          (refine t_qt 14 rfl (by kernel_rfl) rfl rfl (by exact qt_xor32 rfl rfl) ?_) <;> (try refine nY ?_)
          (refine t_qt 15 rfl (by kernel_rfl) rfl rfl (by exact qt_indexA rfl rfl inX inX omX omX) ?_) <;> (try refine nY ?_)
          (refine t_qt 16 rfl (by kernel_rfl) rfl rfl (by exact qt_load rfl _ BoxIn.h inX rfl rfl) ?_) <;> (try refine nY ?_)
          (refine t_qt 17 rfl (by kernel_rfl) rfl rfl (by exact qt_indexA rfl rfl inX inX omX omX) ?_) <;> (try refine nY ?_)
          (refine t_qt 18 rfl (by kernel_rfl) rfl rfl (by exact qt_load rfl _ BoxIn.h inX rfl rfl) ?_) <;> (try refine nY ?_)
          (refine t_qt 19 rfl (by kernel_rfl) rfl rfl (by exact qt_and32 rfl rfl) ?_) <;> (try refine nY ?_)
          (refine t_qt 20 rfl (by kernel_rfl) rfl rfl (by exact qt_xor32 rfl rfl) ?_) <;> (try refine nY ?_)
          refine v_one 2 rfl (by kernel_rfl) ?_; intro w hst K hK; refine s_lit (vs := [.int .i64 2, .int .i64 13, .int .i64 22]) hst inX inX rfl rfl (by simp [Value.cells]) rfl (by omega) (by omega) ?_; clear hst; intro x2 w hst; (try refine nY ?_); (try replace hst := nH hst); refine v_next hK hst (Snap.Le.refl _) (Suf.cons (Suf.refl _)) ?_; clear hst hK K; (try clear w); (try refine nY ?_)
          (refine t_call 3 rfl (by kernel_rfl) rfl (fun S' M' w hS hM hst => rotr_q w hM hst _ x2 _ [2, 13, 22] inX (by rfl) (by rfl) (by decide) (by decide)) inX rfl ?_) <;> (try refine nY ?_)
          (refine t_qt 21 rfl (by kernel_rfl) rfl rfl (by exact qt_add32 rfl rfl) ?_) <;> (try refine nY ?_)
          (refine t_qt 22 rfl (by kernel_rfl) rfl rfl (by exact qt_assign evX) ?_) <;> (try refine nY ?_)
          refine v_done (by kernel_rfl) ?_; clear ops; intro w hst
          replace hst := hst.drop
          repeat' (first | ((first | (with_reducible refine Sl.k_bin ?_; refine s_qt hst (by exact qt_add32 rfl rfl) ?_) | (with_reducible refine Sl.k_build ?_; refine s_qt hst (by exact qt_buildW inX inX inX rfl rfl (by simp only [List.map_cons, List.map_nil, evF, nth]; rfl) (by simp [Value.cells])) ?_)) <;> (try refine nY ?_)) | ((fail_if_success (go_big_may)); (go_step)) | ((first | (with_reducible refine Sl.k_load ?_; (refine s_qt hst (by exact qt_load rfl _ BoxIn.h inX rfl rfl) ?_)) | (with_reducible refine Sl.k_index ?_; (refine s_qt hst (qt_indexA rfl rfl inX inX omX omX) ?_))) <;> (try refine nY ?_)) | (with_reducible refine Sl.gate rfl ?_; (go_step)) | (((((with_reducible refine Sl.k_store ?_; (refine s_store hst rfl _ BoxIn.h inX evX rfl lenOk oneOk (by simp) ?_); clear hst; intro w hst)))) <;> (try refine nY ?_) <;> (try replace hst := nH hst)))
          go_roundw
          case rel => exact ⟨i + 1, round1 s (kList.getD i 0) (ws.getD i 0), by omega, by go_num, Lib.hid (by rw [rounds, ← hs.out]), hst⟩
          case measure => simp [intOf]; omega
        · obtain rfl : i = 64 := by omega
          repeat' (first | ((fail_if_success (go_big_may)); (go_step)) | (with_reducible refine Sl.gate rfl ?_; (go_step)))
          have hst : St S (.box bk (cF u32C s.l) 98 :: .box b5 (cF u32C ws) 113 :: .box b4 (s8C ⟨0, 0, 0, 0, 0, 0, 0, 0⟩) 98 :: .box bx (cF u32C h.l) 98 :: M) _ := hst
          clear hi hlt
          go_loopw [139] (fun v wr => ∃ (i : Nat) (vs : List UInt32), i ≤ 8 ∧ v = .int .i64 i ∧ Hid (vs = addN h.l i s.l) ∧ (8 ≤ vs.length ∧ vs.length ≤ 8) ∧ St S (.box bk (cF u32C vs) 98 :: .box b5 (cF u32C ws) 113 :: .box b4 (s8C ⟨0, 0, 0, 0, 0, 0, 0, 0⟩) 98 :: .box bx (cF u32C h.l) 98 :: M) wr) (fun v _ => 8 - (intOf v).toNat)
          case atStart => exact ⟨0, _, by omega, rfl, Lib.hid rfl, ⟨Nat.le_refl 8, Nat.le_refl 8⟩, hst⟩
          case round =>
            clear hst
            obtain ⟨i, vs, hi, rfl, hvs, hvl, hst⟩ := hrel
            by_cases hlt : i < 8
            · have hhl : i < h.l.length := hlt
              repeat' (first | ((fail_if_success (go_big_may)); (go_step)) | (with_reducible refine Sl.gate rfl ?_; (go_step)))
              refine v_begin hst (by kernel_rfl) ?_; clear hst; intro ops; (try refine nY ?_)
              (refine t_qt 0 rfl (by kernel_rfl) rfl rfl (by exact qt_move evX) ?_) <;> (try refine nY ?_)
              (refine t_qt 1 rfl (by kernel_rfl) rfl rfl (by exact qt_indexA rfl rfl inX inX omX omX) ?_) <;> (try refine nY ?_)
              (refine t_qt 2 rfl (by kernel_rfl) rfl rfl (by exact qt_ldW evX BoxIn.h inX omX) ?_) <;> (try refine nY ?_)
              (refine t_qt 3 rfl (by kernel_rfl) rfl rfl (by exact qt_move evX) ?_) <;> (try refine nY ?_)
              (refine t_qt 4 rfl (by kernel_rfl) rfl rfl (by exact qt_indexA rfl rfl inX inX omX omX) ?_) <;> (try refine nY ?_)
              (refine t_qt 5 rfl (by kernel_rfl) rfl rfl (by exact qt_ldW evX BoxIn.h inX omX) ?_) <;> (try refine nY ?_)
              (refine t_qt 6 rfl (by kernel_rfl) rfl rfl (by exact qt_add32 rfl rfl) ?_) <;> (try refine nY ?_)
              (refine t_qt 7 rfl (by kernel_rfl) rfl rfl (by exact qt_indexA rfl rfl inX inX omX omX) ?_) <;> (try refine nY ?_)
              refine v_one 8 rfl (by kernel_rfl) ?_; intro w hst K hK; (refine s_stW hst rfl BoxIn.h inX evX omX ?_); clear hst; intro w hst; (try refine nY ?_); (try replace hst := nH hst); refine v_last hK hst ?_; clear hst hK K; (try clear w); (try refine nY ?_)
              refine v_done (by kernel_rfl) ?_; clear ops; intro w hst
              repeat' (first | ((fail_if_success (go_big_may)); (go_step)) | (with_reducible refine Sl.gate rfl ?_; (go_step)))
              go_roundw
              case rel => exact ⟨i + 1, _, by omega, by go_num, Lib.hid (by rw [addN, ← hvs.out]), by rw [List.length_set]; omega, hst⟩
              case measure => simp [intOf]; omega
            · obtain rfl : i = 8 := by omega
              have e : cF u32C vs = s8C (comp h blk) := by rw [hvs.out, hs.out, hws.out]; rfl
              rw [e] at hst
              repeat' (first | ((fail_if_success (go_big_may)); (go_step)) | (((with_reducible refine Sl.k_load ?_; (refine s_qt hst (by exact qt_loadA evX BoxIn.h inX rfX) ?_))) <;> (try refine nY ?_)) | (with_reducible refine Sl.gate rfl ?_; (go_step)) | (((((with_reducible refine Sl.k_store ?_; (refine s_store hst rfl _ BoxIn.h inX evX rfl lenOk oneOk (by simp) ?_); clear hst; intro w hst)))) <;> (try refine nY ?_) <;> (try replace hst := nH hst)))
              refine ret_one rfl (rv_cell hst rfl _ BoxIn.h inX rfl rfl) ?_; (try simp only [nth, List.drop_zero, List.drop_succ_cons, List.take_succ_cons, List.take_zero, vOf_true, vOf_false])
              exact ⟨_, rfl, rfl, (by first | exact hst | exact hst.drop | exact hst.drop.drop | exact hst.drop.drop.drop | exact hst.drop.drop.drop.drop | exact hst.drop.drop.drop.drop.drop | exact hst.drop.drop.drop.drop.drop.drop | exact hst.drop.drop.drop.drop.drop.drop.drop | exact hst.drop.drop.drop.drop.drop.drop.drop.drop | exact hst.drop.drop.drop.drop.drop.drop.drop.drop.drop | exact hst.drop.drop.drop.drop.drop.drop.drop.drop.drop.drop | exact hst.drop.drop.drop.drop.drop.drop.drop.drop.drop.drop.drop | exact hst.drop.drop.drop.drop.drop.drop.drop.drop.drop.drop.drop.drop | exact hst.drop.drop.drop.drop.drop.drop.drop.drop.drop.drop.drop.drop.drop)⟩
end Go.Proofs.YtjapdhaimbalkaaDoor

/- Package slices: Chunk over bytes. -/
--@u32
--@hgp
namespace Go.Proofs.YtjapdhaimbalkaaDoor
set_option linter.unusedSimpArgs false
set_option linter.unusedVariables false
open Go.RowKit Go.Sl

theorem pt_box {S : Snap} {M : List Chunk} {w : World} {b : Nat} {c : List Value} {T : TypeId} {α : Type} [Rep α] {x : α} (h : St S (.box b c T :: M) w) (hR : Rep.R S c x) (hz : c.length = Rep.z α) :
    ∃ S', S.Le S' ∧ St S' M w ∧ Pt S' (.pointer (some ⟨b, 0, none⟩)) x := by
  obtain ⟨h1, h2⟩ := h.freeze_box
  refine ⟨_, h1, h2, b, 0, c.toArray, T, (0, 0), rfl, by simp [Snap.with], ?_⟩
  have := Rep.mono h1 hR
  rw [← hz]
  simpa using this

abbrev chunkPost (S : Snap) (M : List Chunk) (m : List UInt8) (v : Value) (w : World) : Prop :=
  ∃ S' ps pn, S.Le S' ∧ v = .func (.func 98) #[] #[ps, pn] ∧ Pt S' ps m ∧ Pt S' pn (64 : Int) ∧ St S' M w

set_option maxRecDepth 8000 in
set_option maxHeartbeats 400000 in
theorem chunk_c {S M} (w : World) (hst : St S M w) (vm : Value) (m : List UInt8) (hm : RSl S vm m) :
    Rets Tryd.prog 85 [vm, .int .i64 64] w fun v w' => chunkPost S M m v w' := by
  unfold Rets
  have h1 := hm.oneCell
  go_enter Tryd.func85, Tryd.ntmps85
  repeat' (first | ((fail_if_success (go_big_may)); (go_step)) | (((with_reducible refine Sl.k_load ?_; (refine s_qt hst (by exact qt_load rfl _ BoxIn.h inX rfl rfl) ?_))) <;> (try refine nY ?_)) | (with_reducible refine Sl.gate rfl ?_; (go_step)) | (((((refine s_box hst evX rfl ?_; clear hst; intro bx w hst)))) <;> (try refine nY ?_) <;> (try replace hst := nH hst)))
  refine ret_one rfl (rv_tmp rfl) ?_; (try simp only [nth, List.drop_zero, List.drop_succ_cons, List.take_succ_cons, List.take_zero, vOf_true, vOf_false])
  obtain ⟨S1, hS1, hst, hpn⟩ := pt_box (α := Int) (x := (64 : Int)) hst (by exact ⟨rfl, by unfold I64; omega⟩) rfl
  change St S1 (.box _ vm.cells.toList _ :: M) w at hst
  rw [cells_one h1] at hst
  obtain ⟨S2, hS2, hst, hps⟩ := pt_box (α := List UInt8) (x := m) hst (by exact ⟨vm, rfl, hm.mono hS1⟩) rfl
  exact ⟨_, rfl, S2, _, _, hS1.trans hS2, rfl, hps, hpn.mono hS2, hst⟩

def chunkAt (m : List UInt8) (k : Nat) : List UInt8 := (m.drop (64 * k)).take 64
def chunkOk (S : Snap) (m : List UInt8) (k : Nat) (vs : List Value) : Prop := ∃ v, vs = [v] ∧ RSl S v (chunkAt m k)

set_option maxRecDepth 8000 in
set_option maxHeartbeats 400000 in
theorem chunk1_c {S} (m : List UInt8) (N : Nat) (hN : m.length = 64 * N) (hl : m.length ≤ 16777216) (ps pn : Value) (hs : Pt S ps m) (hn : Pt S pn (64 : Int)) : IterC Tryd.prog S 98 [ps, pn] N (chunkOk S m) := by
  intro l MM hY w hst
  have hN' : m.length ≤ 64 * N ∧ 64 * N ≤ m.length := by omega
  clear hN
  go_enter Tryd.func98, Tryd.ntmps98
  repeat' (((fail_if_success (go_big_may)); (go_step)))
  go_loopw [4] (fun v wr => ∃ k, k ≤ N ∧ v = .int .i64 ((64 * k : Nat) : Int) ∧ St S (MM k) wr) (fun v _ => m.length - (intOf v).toNat)
  case atStart => exact ⟨0, Nat.zero_le _, rfl, hst⟩
  case round =>
    clear hst
    obtain ⟨k, hk, rfl, hst⟩ := hrel
    by_cases hlt : k < N
    · have h64 : ((64 * k : Nat) : Int) < m.length := by omega
      have hlen : ((m.drop (64 * k)).take (m.length - 64 * k)).length = m.length - 64 * k := by rw [List.length_take, List.length_drop]; omega
      have hmin : min (64 : Int) (((m.drop (64 * k)).take (m.length - 64 * k)).length : Nat) = 64 := by rw [hlen]; omega
      have Hmin := Lib.hid hmin
      clear hmin hlen
      repeat' (first | ((fail_if_success (go_big_may)); (go_step)) | ((first | (with_reducible refine Sl.k_load ?_; ((refine s_ex hst (qt_ldp_list evX asX inX) ?_; rintro v ⟨hvl, hv1⟩))) | (with_reducible refine Sl.k_call ?_; (refine s_qt hst (by exact qt_len evX asX inX) ?_))) <;> (try refine nY ?_)) | (with_reducible refine Sl.gate rfl ?_; (go_step)))
      refine v_begin hst (by kernel_rfl) ?_; clear hst; intro ops; (try refine nY ?_)
      ((refine t_ex 0 rfl (by kernel_rfl) rfl rfl (fun w hst => qt_ldp_int evX asX inX) ?_; rintro v ⟨rfl, hI⟩)) <;> (try refine nY ?_)
      ((refine t_ex 1 rfl (by kernel_rfl) rfl rfl (fun w hst => qt_ldp_list evX asX inX) ?_; rintro v ⟨hvl, hv1⟩)) <;> (try refine nY ?_)
      (refine t_qt 2 rfl (by kernel_rfl) rfl rfl (by exact qt_move evX) ?_) <;> (try refine nY ?_)
      ((refine t_ex 3 rfl (by kernel_rfl) rfl rfl (fun w hst => qt_slice (a := 64 * k) (b := m.length) evX hvl inX inX (.inr ⟨.i64, by simp [evF, nth]⟩) (.inl ⟨rfl, rfl⟩) (.inl rfl) (by omega) (Nat.le_refl _) ) ?_; rintro v  hp)) <;> (try refine nY ?_)
      (refine t_qt 4 rfl (by kernel_rfl) rfl rfl (by exact qt_len evX asX inX) ?_) <;> (try refine nY ?_)
      (refine t_qt 5 rfl (by kernel_rfl) rfl rfl (by exact qt_min rfl rfl) ?_) <;> (try refine nY ?_)
      (refine t_qt 6 rfl (by kernel_rfl) rfl rfl (by exact qt_assign evX) ?_) <;> (try refine nY ?_)
      refine v_done (by kernel_rfl) ?_; clear ops; intro w hst
      rw [Hmin.out]
      repeat' ((fail_if_success (with_reducible show Code.wp _ (Code.region 4 _ _) _ _ _)); ((fail_if_success (go_big_may)); (go_step)))
      refine (wpIn_wide (n := 0)).1 (wpIn_region_lit (in_take 10 (.inl rfl) ?_ rfl ?_))
      · rintro ⟨a, w, ⟨v, hv⟩, _⟩
        cases hv
      · simp only [List.take_succ_cons, List.take_zero, List.drop_succ_cons, List.drop_zero]
        repeat' (first | ((fail_if_success (go_big_may)); (go_step)) | (((with_reducible refine Sl.k_load ?_; ((refine s_ex hst (qt_ldp_list evX asX inX) ?_; rintro v ⟨hvl, hv1⟩)))) <;> (try refine nY ?_)) | (with_reducible refine Sl.gate rfl ?_; (go_step)))
        refine s_slice (a := 64 * k) (b := 64 * k + 64) evX hvl inX inX (.inr ⟨.i64, by simp [evF, nth]⟩) (.inr ⟨.i64, by simp [evF, nth]⟩) (.inr ⟨.i64, 64 * k + 64, by simp [evF, nth], Nat.le_refl _, by omega, rfl⟩) (by omega) (by omega) ?_
        intro vs hvs
        rw [Nat.add_sub_cancel_left] at hvs
        refine nY ?_
        repeat' (((fail_if_success (go_big_may)); (go_step)))
        refine in_yield rfl rfl (hY k hlt _ ⟨vs, rfl, hvs⟩ _ hst) ?_
        clear hst
        intro w hst
        refine nY ?_
        refine in_plain (.inl rfl) ?_ rfl ?_
        · rintro ⟨a, w, ⟨v, hv⟩, _⟩
          cases hv
        · repeat' (first | ((fail_if_success (go_big_may)); (go_step)) | (((with_reducible refine Sl.k_load ?_; ((refine s_ex hst (qt_ldp_int evX asX inX) ?_; rintro v ⟨rfl, hI⟩)))) <;> (try refine nY ?_)) | (with_reducible refine Sl.gate rfl ?_; (go_step)))
          go_roundw
          case rel => exact ⟨k + 1, by omega, by go_num, hst⟩
          case measure => simp [intOf]; omega
    · obtain rfl : k = N := by omega
      repeat' (first | ((fail_if_success (go_big_may)); (go_step)) | ((first | (with_reducible refine Sl.k_load ?_; ((refine s_ex hst (qt_ldp_list evX asX inX) ?_; rintro v ⟨hvl, hv1⟩))) | (with_reducible refine Sl.k_call ?_; (refine s_qt hst (by exact qt_len evX asX inX) ?_))) <;> (try refine nY ?_)) | (with_reducible refine Sl.gate rfl ?_; (go_step)))
      go_end0
      exact ⟨⟨_, rfl⟩, hst⟩
end Go.Proofs.YtjapdhaimbalkaaDoor

/- Package sha: the hash of a byte sequence. -/
--@u32
--@hgp
--@flat
namespace Go.Proofs.YtjapdhaimbalkaaDoor
set_option linter.unusedSimpArgs false
set_option linter.unusedVariables false
open Go.RowKit Go.Sl

theorem qt_eqnil {P : Program} {T E T2 : TypeId} {l : List Value} {x y : Operand} {S : Snap} {M : List Chunk} {a : Option Addr} {n c n' c' : Nat} (hx : evF l x = .slice a n c) (hy : evF l y = .slice none n' c') (hT : SlT P T E) :
    Qt P l (.binOp .eql T x y T2) S M (.bool a.isNone) := fun dst ty pos af w hst => by
  simp only [execOp, hx, hy, eqGuard_at_slice, Sem.run_bind, Sem.run_pure, Result.andThen_ok, Lib.run_eql_slice_nil w T E a n c n' c' hT.u]

set_option maxRecDepth 8000 in
set_option maxHeartbeats 400000 in
theorem clone_c {S M} (w : World) (hst : St S M w) (v : Value) (xs : List UInt8) (hv : RSl S v xs) (hm : xs.length ≤ 16777216) :
    Rets Tryd.prog 82 [v] w fun u w' => St S (.sl u 5 1 xs.length (u8s xs) :: M) w' := by
  unfold Rets
  have hv' := hv
  rcases hv with ⟨ad, cap, rfl, rfl, _⟩ | ⟨b, o, cap, c, T, fz, rfl, _, _, _, _⟩
  · cases ad with
    | none =>
      go_enter Tryd.func82, Tryd.ntmps82
      repeat' (first | (with_reducible refine Sl.k_bin ?_; (refine s_qt hst (qt_eqnil rfl rfl (by infer_instance)) ?_; simp only [Option.isNone_none, Option.isNone_some]; (try refine nY ?_))) | ((fail_if_success (go_big_may)); (go_step)))
      go_ret
      exact ⟨_, rfl, hst.nil _ 1⟩
    | some a =>
      go_enter Tryd.func82, Tryd.ntmps82
      repeat' (first | (with_reducible refine Sl.k_bin ?_; (refine s_qt hst (qt_eqnil rfl rfl (by infer_instance)) ?_; simp only [Option.isNone_none, Option.isNone_some]; (try refine nY ?_))) | ((fail_if_success (go_big_may)); (go_step)))
      refine s_lit (vs := []) (cs := []) hst (by infer_instance) (by infer_instance) rfl rfl (by simp) rfl (by omega) (by omega) ?_
      clear hst; intro u w hst
      refine nY ?_
      repeat' (((fail_if_success (go_big_may)); (go_step)))
      refine s_append_data (k := 0) hst evX evX rfl hv' (by infer_instance) (by infer_instance) (by infer_instance) (by first | (simp; done) | (simp at hm ⊢; omega)) (by first | (simp; done) | (simp at hm ⊢; omega)) (by decide) ?_
      clear hst; intro v' w c' hc hst
      refine nY ?_
      repeat' (((fail_if_success (go_big_may)); (go_step)))
      go_ret
      refine ⟨_, rfl, ?_⟩
      rw [hc.eq_u8s] at hst
      simp at hst
      exact hst
  · go_enter Tryd.func82, Tryd.ntmps82
    repeat' (first | (with_reducible refine Sl.k_bin ?_; (refine s_qt hst (qt_eqnil rfl rfl (by infer_instance)) ?_; simp only [Option.isNone_none, Option.isNone_some]; (try refine nY ?_))) | ((fail_if_success (go_big_may)); (go_step)))
    refine s_lit (vs := []) (cs := []) hst (by infer_instance) (by infer_instance) rfl rfl (by simp) rfl (by omega) (by omega) ?_
    clear hst; intro u w hst
    refine nY ?_
    repeat' (((fail_if_success (go_big_may)); (go_step)))
    refine s_append_data (k := 0) hst evX evX rfl hv' (by infer_instance) (by infer_instance) (by infer_instance) (by first | (simp; done) | (simp at hm ⊢; omega)) (by first | (simp; done) | (simp at hm ⊢; omega)) (by decide) ?_
    clear hst; intro v' w c' hc hst
    refine nY ?_
    repeat' (((fail_if_success (go_big_may)); (go_step)))
    go_ret
    refine ⟨_, rfl, ?_⟩
    rw [hc.eq_u8s] at hst
    simp at hst
    exact hst

/-- The package's two variables lie as they were laid. -/
structure Glob (S : Snap) : Prop where
  start : Pt S (.pointer (some ⟨0, 0, none⟩)) (⟨s8Start.l⟩ : Arr UInt32 8)
  cons : Pt S (.pointer (some ⟨1, 0, none⟩)) (⟨kList⟩ : Arr UInt32 64)
theorem Glob.mono {S S' : Snap} (hS : S.Le S') (h : Glob S) : Glob S' := ⟨h.start.mono hS, h.cons.mono hS⟩

instance flatArrB {n : Nat} : FlatC (Arr UInt8 n) (fun a => u8s a.l) := ⟨fun {S cs x} h => h.2.eq_u8s⟩
theorem sl_lenOf0 {v : Value} {S : Snap} {M : List Chunk} {w : World} {T : TypeId} {z n : Nat} {c : List Value} (h : St S (.sl v T z n c :: M) w) : (∃ a k, v = .slice a n k) := by
  rcases (h.get (k := 0) rfl).2 with ⟨rfl, rfl⟩ | ⟨g, cap, cur, fz, rfl, _⟩ <;> exact ⟨_, _, rfl⟩
def lenOf : Value → Nat
  | .slice _ n _ => n
  | _ => 0
theorem sl_lenOf {v : Value} {S : Snap} {M : List Chunk} {w : World} {T : TypeId} {z n : Nat} {c : List Value} (h : St S (.sl v T z n c :: M) w) : lenOf v = n := by
  obtain ⟨a, k, rfl⟩ := sl_lenOf0 h
  rfl

set_option maxRecDepth 100000 in
set_option maxHeartbeats 4000000 in
theorem sum_c {S M} (w : World) (hst : St S M w) (hG : Glob S) (vb : Value) (b : List UInt8) (hb : RSl S vb b) (hm : b.length ≤ 8000000) :
    Rets Tryd.prog 54 [vb] w fun v w' => v = .agg (u8s (hash b)).toArray ∧ St S M w' := by
  refine rets_marks Tryd.func54 rfl ?_
  simp only [Tryd.ntmps54, List.size_toArray, List.length_cons, List.length_nil, Nat.reduceAdd, Nat.reduceSub, Array.replicate_succ, Array.replicate_zero, List.push_toArray, List.append_toArray, List.nil_append, List.cons_append]
  have hpz : padZ b.length < 64 := Nat.mod_lt _ (by decide)
  repeat' (first | (((with_reducible refine Sl.k_call ?_; ((refine s_call (clone_c _ hst vb b hb (by omega)) inX rfl ?_; clear hst; rintro v w hst)))) <;> (try refine nY ?_) <;> (try replace hst := nH hst)) | ((fail_if_success (go_big_may)); (go_step)) | (((((refine s_alloc hst inX ?_; clear hst; intro bk w hst)))) <;> (try refine nY ?_) <;> (try replace hst := nH hst)))
  rename Nat => b2
  refine s_lit (vs := [.int .u8 128]) hst inX inX rfl rfl (by simp [Value.cells]) rfl (by omega) (by omega) ?_
  clear hst; intro u w hst
  refine nY ?_
  repeat' (fail)
  refine s_append (j := 0) hst evX evX SlIn.h rfl inX inX inX (by simp [Value.cells, Value.oneCell']) (by omega) (by omega) (by decide) ?_
  clear hst; intro v' w hst
  refine nY ?_
  (try replace hst := nH hst)
  replace hst := hst.drop
  repeat' (((fail_if_success (go_big_may)); (go_step)))
  have hone := sl_one hst
  have hst : St S (.sl v' 5 1 (b ++ [128]).length (u8s (b ++ [128])) :: .box b2 (u8s (List.replicate 32 0)) 69 :: M) w := by
    rw [List.length_append, u8s_snoc]
    exact hst
  go_loopw [3] (fun v wr => ∃ (j : Nat) (c : List UInt8), j ≤ padZ b.length ∧ Hid (c = b ++ [128] ++ List.replicate j 0) ∧ (b.length + 1 + j ≤ c.length ∧ c.length ≤ b.length + 1 + j) ∧ v.oneCell' = true ∧ lenOf v = c.length ∧ St S (.sl v 5 1 c.length (u8s c) :: .box b2 (u8s (List.replicate 32 0)) 69 :: M) wr) (fun v _ => b.length + 65 - lenOf v)
  case atStart => exact ⟨0, _, by omega, Lib.hid (by simp), by simp, hone, sl_lenOf hst, hst⟩
  case round =>
    clear hst
    obtain ⟨j, c, hj, hc, hcl, hone, hlo, hst⟩ := hrel
    have Hlo := Lib.hid hlo
    clear hlo
    have hmod : ((c.length : Int) % 64 = 56 → padZ b.length ≤ j) ∧ (padZ b.length ≤ j → (c.length : Int) % 64 = 56) := by
      unfold padZ at hj ⊢
      omega
    by_cases hlt : j < padZ b.length
    · have h56 : ((c.length : Int) % 64 == 56) = false := beq_eq_false_iff_ne.2 (by omega)
      have h56' : ((c.length : Int) % 64 != 56) = true := bne_iff_ne.2 (by omega)
      clear hmod
      repeat' (first | ((fail_if_success (go_big_may)); (go_step)) | (((with_reducible refine Sl.k_call ?_; (refine s_qt hst (by exact qt_len_own evX SlIn.h inX) ?_))) <;> (try refine nY ?_)) | (with_reducible refine Sl.gate rfl ?_; (go_step)))
      refine s_lit (vs := [.int .u8 0]) hst inX inX rfl rfl (by simp [Value.cells]) rfl (by omega) (by omega) ?_
      clear hst; intro u w hst
      refine nY ?_
      repeat' (fail)
      refine s_append (j := 0) hst evX evX SlIn.h rfl inX inX inX (by simp [Value.cells, Value.oneCell']) (by omega) (by omega) (by decide) ?_
      clear hst; intro v' w hst
      refine nY ?_
      (try replace hst := nH hst)
      replace hst := hst.drop
      repeat' (((fail_if_success (go_big_may)); (go_step)))
      have hone' := sl_one hst
      have hlo' := sl_lenOf hst
      go_roundw
      case rel => exact ⟨j + 1, c ++ [0], by omega, Lib.hid (by rw [hc.out, List.append_assoc, List.append_assoc, List.append_assoc, ← List.replicate_succ']), by simp; omega, hone', by simpa using hlo', by rw [List.length_append, u8s_snoc]; exact hst⟩
      case measure =>
        have h1 := Hlo.out
        have h2 : lenOf v' = c.length + 1 := by simpa using hlo'
        show b.length + 65 - lenOf v' < b.length + 65 - lenOf _
        rw [h2]
        omega
    · have h56' : ((c.length : Int) % 64 != 56) = false := bne_eq_false_iff_eq.2 (by omega)
      clear hmod
      obtain rfl : j = padZ b.length := by omega
      repeat' (first | (((with_reducible refine Sl.k_call ?_; ((refine s_call (store_c _ _ c 16000000 hst (8 * b.length) 8 (by omega) (by omega) (by omega) (by omega)) inX rfl ?_; clear hst; rintro v w hst)))) <;> (try refine nY ?_) <;> (try replace hst := nH hst)) | ((fail_if_success (go_big_may)); (go_step)) | (((with_reducible refine Sl.k_call ?_; (refine s_qt hst (by first | exact qt_len evX asX inX | exact qt_len_own evX SlIn.h inX) ?_))) <;> (try refine nY ?_)) | (with_reducible refine Sl.gate rfl ?_; (go_step)))
      have hpad : c ++ be (8 * b.length) 8 = pad b := by rw [hc.out]; rfl
      rw [hpad] at hst
      obtain ⟨S1, hS1, hst, hpv⟩ := lit_u8 (pad b) hst rfl rfl
      have hone1 := hpv.oneCell
      have hG1 := hG.mono hS1
      have hG2 := hG1.start
      repeat' (first | (((with_reducible refine Sl.k_load ?_; (refine s_qt hst (by exact qt_ldp_flat evX asX inX inX rfl) ?_))) <;> (try refine nY ?_)) | (((((refine s_alloc hst inX ?_; clear hst; intro bk w hst)))) <;> (try refine nY ?_) <;> (try replace hst := nH hst)))
      refine s_store hst rfl _ BoxIn.h inX (cs := s8C s8Start) evX rfl rfl rfl (by simp) ?_
      clear hst; intro w hst
      rename Nat => b5
      have hst : St S1 (.box b5 [.nilFunc] 99 :: .box bk (s8C s8Start) 98 :: .box b2 (u8s (List.replicate 32 0)) 69 :: M) w := hst
      repeat' (first | (((with_reducible refine Sl.k_call ?_; ((refine s_call (chunk_c _ hst v (pad b) hpv) inX rfl ?_; clear hst; rintro v w ⟨S2, ps, pn, hS2, rfl, hps, hpn, hst⟩)))) <;> (try refine nY ?_) <;> (try replace hst := nH hst)) | ((fail_if_success (go_big_may)); (go_step)) | (((((with_reducible refine Sl.k_store ?_; (refine s_store hst rfl _ BoxIn.h inX evX rfl lenOk oneOk (by simp) ?_); clear hst; intro w hst)))) <;> (try refine nY ?_) <;> (try replace hst := nH hst)))
      have hG3 := hG1.mono hS2
      have hG4 := hG3.cons
      have hlen : (pad b).length = 64 * ((pad b).length / 64) := by have := pad_mod b; omega
      have hpl : (pad b).length ≤ 16777216 := by rw [pad_len]; omega
      refine s_range1 (I := fun k => [.box b5 [.func (.func 84) #[] #[]] 99, .box bk (s8C (blocks (pad b) k)) 98]) (M0 := .box b2 (u8s (List.replicate 32 0)) 69 :: M) hst rfl inX (chunk1_c (pad b) ((pad b).length / 64) hlen hpl ps pn hps hpn) ?_ (by simp) ?_ ?_
      · rintro k vs ⟨v, rfl, _⟩; rfl
      · clear hst
        rintro r k v C w hk ⟨_, hv, hvc⟩ hst
        obtain rfl := (List.cons.inj hv).1
        simp only [List.cons_append, List.nil_append] at hst
        refine nY ?_
        refine wpIn_block (regionIn (.inr ⟨r, rfl⟩) ?_ rfl ?_)
        · rintro ⟨a, w, h, _⟩
          cases h
        · have hcl : (chunkAt (pad b) k).length = 64 := by rw [chunkAt, List.length_take, List.length_drop]; omega
          repeat' (first | (((with_reducible refine Sl.k_call ?_; ((refine s_callv (compress_c _ hst hG4 (blocks (pad b) k) _ (chunkAt (pad b) k) hvc hcl) rfl inX rfl rfl ?_; clear hst; rintro v w ⟨rfl, hst⟩)))) <;> (try refine nY ?_) <;> (try replace hst := nH hst)) | ((fail_if_success (go_big_may)); (go_step)) | (((with_reducible refine Sl.k_load ?_; (refine s_qt hst (by first | exact qt_loadA evX BoxIn.h inX rfX | exact qt_load rfl _ BoxIn.h inX rfl rfl) ?_))) <;> (try refine nY ?_)) | (((((with_reducible refine Sl.k_store ?_; (refine s_store hst rfl _ BoxIn.h inX evX rfl lenOk oneOk (by simp) ?_); clear hst; intro w hst)))) <;> (try refine nY ?_) <;> (try replace hst := nH hst)))
          exact ⟨trivial, hst⟩
      · clear hst
        intro d w hst
        have hst : St S2 (.obj d (.deferred (some [])) :: .box b5 [.func (.func 84) #[] #[]] 99 :: .box bk (cF u32C (blocks (pad b) ((pad b).length / 64)).l) 98 :: .box b2 (u8s (List.replicate 32 0)) 69 :: M) w := hst
        obtain ⟨s8, hs8⟩ : ∃ s8, blocks (pad b) ((pad b).length / 64) = s8 := ⟨_, rfl⟩
        rw [hs8] at hst
        have H8 : Hid (hash b = out8 s8) := Lib.hid (by rw [hash, hs8])
        clear hs8
        repeat' (first | ((fail_if_success (go_big_may)); (go_step)) | (((with_reducible refine Sl.k_load ?_; (refine s_qt hst (by exact qt_loadA evX BoxIn.h inX rfX) ?_))) <;> (try refine nY ?_)))
        go_loopw [7, 36] (fun vo v wr => ∃ (i : Nat) (c : List UInt8), i ≤ 8 ∧ v = .int .i64 i ∧ Hid (c = (s8.l.take i).flatMap fun x => be x.toNat 4) ∧ c.length ≤ 4 * i ∧ vo.oneCell' = true ∧ St S2 (.sl vo 5 1 c.length (u8s c) :: .obj d (.deferred (some [])) :: .box b5 [.func (.func 84) #[] #[]] 99 :: .box bk (cF u32C s8.l) 98 :: .box b2 (u8s (List.replicate 32 0)) 69 :: M) wr) (fun _ v _ => 8 - (intOf v).toNat)
        case atStart => exact ⟨0, [], by omega, rfl, Lib.hid rfl, by simp, rfl, hst.nil _ 1⟩
        case round =>
          clear hst
          obtain ⟨i, c, hi, rfl, hc, hcl, hone, hst⟩ := hrel
          by_cases hlt : i < 8
          · have hll : i < s8.l.length := hlt
            have h32 := (s8.l.getD i 0).toNat_lt
            repeat' (first | ((first | (with_reducible refine Sl.k_conv ?_; refine s_qt hst (by exact qt_conv3264 rfl inX inX) ?_) | (with_reducible refine Sl.k_indexV ?_; refine s_qt hst (by exact qt_indexW evX rfl inX inX omX omX omX) ?_)) <;> (try refine nY ?_)) | (((with_reducible refine Sl.k_call ?_; ((refine s_call (store_c _ _ c 32 hst (s8.l.getD i 0).toNat 4 (by omega) (by omega) (by omega) (by omega)) inX rfl ?_; clear hst; rintro v w hst)))) <;> (try refine nY ?_) <;> (try replace hst := nH hst)) | ((fail_if_success (go_big_may)); (go_step)) | (with_reducible refine Sl.gate rfl ?_; (go_step)))
            have hone' := sl_one hst
            go_roundw
            case rel => exact ⟨i + 1, _, by omega, by go_num, Lib.hid (by rw [hc.out, List.take_succ_eq_append_getElem hll, List.flatMap_append, List.flatMap_cons, List.flatMap_nil, List.append_nil, List.getD_eq_getElem?_getD, List.getElem?_eq_getElem hll]; rfl), by rw [List.length_append, be_len]; omega, hone', hst⟩
            case measure => simp [intOf]; omega
          · obtain rfl : i = 8 := by omega
            have hout : c = hash b := by rw [hc.out, H8.out]; rfl
            rw [hout] at hst
            obtain ⟨S3, hS3, hst, hov⟩ := lit_u8 (hash b) hst rfl rfl
            have hov1 := hov.oneCell
            have hhl := hash_len b
            repeat' (first | ((fail_if_success (go_big_may)); (go_step)) | (with_reducible refine Sl.gate rfl ?_; (go_step)))
            refine s_ex hst (qt_arrayAt evX hov inX hhl (by decide)) ?_
            rintro p hp
            refine nY ?_
            repeat' ((((with_reducible refine Sl.k_load ?_; (refine s_qt hst (by exact qt_ldp_flat evX asX inX inX rfl) ?_))) <;> (try refine nY ?_)))
            refine s_store hst rfl _ BoxIn.h inX (cs := u8s (hash b)) evX rfl (by rw [u8s_length, hhl]) (List.all_eq_true.2 (u8s_one _)) (by simp [u8s]) ?_
            clear hst; intro w hst
            have hst : St S3 (.obj d (.deferred (some [])) :: .box b5 [.func (.func 84) #[] #[]] 99 :: .box bk (cF u32C s8.l) 98 :: .box b2 (u8s (hash b)) 69 :: M) w := by
              simpa [u8s] using hst
            repeat' (((fail_if_success (go_big_may)); (go_step)))
            refine ret_mark1 hst rfl (fun w' hst' => rv_cell (cs := u8s (hash b)) hst' rfl 2 rfl inX ?_ (by rw [u8s_length, hhl])) fun w' hst' => ⟨_, rfl, rfl, St.weaken ((hS1.trans hS2).trans hS3) hst'.drop.drop.drop⟩
            rw [List.drop_zero, List.take_of_length_le (by rw [u8s_length, hhl]; exact Nat.le_refl _)]
end Go.Proofs.YtjapdhaimbalkaaDoor

/- Package sha: digests. -/
--@u32
--@hgp
--@flat
namespace Go.Proofs.YtjapdhaimbalkaaDoor
set_option linter.unusedSimpArgs false
set_option linter.unusedVariables false
open Go.RowKit Go.Sl

def joinB (parts : List (List UInt8)) : List UInt8 := parts.flatMap encB
def dig (tag : Int) (parts : List (List UInt8)) : List UInt8 := (hash (UInt8.ofNat tag.toNat :: joinB parts)).take 16
theorem dig_len (tag : Int) (parts : List (List UInt8)) : (dig tag parts).length = 16 := by rw [dig, List.length_take, hash_len]; rfl
def sizeB (parts : List (List UInt8)) : Nat := (parts.map List.length).sum + 10 * parts.length
theorem joinB_len (parts : List (List UInt8)) : (joinB parts).length ≤ sizeB parts := by
  induction parts with
  | nil => simp [joinB, sizeB]
  | cons p r ih =>
    have := encI_len p.length
    simp only [joinB, sizeB, List.flatMap_cons, List.length_append, List.map_cons, List.sum_cons, List.length_cons, encB] at ih ⊢
    omega
theorem sizeB_take (parts : List (List UInt8)) (i : Nat) : sizeB (parts.take i) ≤ sizeB parts := by
  induction parts generalizing i with
  | nil => simp [sizeB]
  | cons p r ih =>
    cases i with
    | zero => simp [sizeB]
    | succ i =>
      have := ih i
      simp only [List.take_succ_cons, sizeB, List.map_cons, List.sum_cons, List.length_cons] at this ⊢
      omega
theorem sizeB_mem {parts : List (List UInt8)} {p : List UInt8} (h : p ∈ parts) : p.length ≤ sizeB parts := by
  induction parts with
  | nil => cases h
  | cons q r ih =>
    simp only [sizeB, List.map_cons, List.sum_cons, List.length_cons] at ih ⊢
    rcases List.mem_cons.1 h with rfl | h
    · omega
    · have := ih h; omega

set_option maxRecDepth 8000 in
set_option maxHeartbeats 400000 in
theorem join_c {S M} (w : World) (vb : Value) (b : List UInt8) (hst : St S (.sl vb 5 1 b.length (u8s b) :: M) w) (vp : Value) (parts : List (List UInt8)) (hp : RSl S vp parts) (hb : b.length ≤ 1000) (hs : sizeB parts ≤ 1048576) :
    Rets Tryd.prog 55 [vb, vp] w fun v w' => St S (.sl v 5 1 (b ++ joinB parts).length (u8s (b ++ joinB parts)) :: M) w' := by
  unfold Rets
  have h1 := sl_one hst
  have hpn : parts.length ≤ 1048576 := by unfold sizeB at hs; omega
  go_enter Tryd.func55, Tryd.ntmps55
  repeat' (first | ((fail_if_success (go_big_may)); (go_step)) | (((with_reducible refine Sl.k_call ?_; (refine s_qt hst (by exact qt_len evX asX inX) ?_))) <;> (try refine nY ?_)))
  go_loopw [0, 9] (fun u v wr => ∃ (i : Nat) (c : List UInt8), i ≤ parts.length ∧ v = .int .i64 i ∧ Hid (c = b ++ joinB (parts.take i)) ∧ c.length ≤ b.length + sizeB parts ∧ u.oneCell' = true ∧ St S (.sl u 5 1 c.length (u8s c) :: M) wr) (fun _ v _ => parts.length - (intOf v).toNat)
  case atStart => exact ⟨0, b, Nat.zero_le _, rfl, Lib.hid (by simp [joinB]), by omega, h1, hst⟩
  case round =>
    clear hst
    obtain ⟨i, c, hi, rfl, hc, hcl, hone, hst⟩ := hrel
    by_cases hlt : i < parts.length
    · have hpl := sizeB_mem (List.getElem_mem hlt)
      have hcn : (c ++ encB parts[i]).length ≤ b.length + sizeB parts := by
        have h1 := joinB_len (parts.take (i + 1))
        have h2 := sizeB_take parts (i + 1)
        have e : c ++ encB parts[i] = b ++ joinB (parts.take (i + 1)) := by
          rw [hc.out, List.take_succ_eq_append_getElem hlt, joinB, joinB, List.flatMap_append, List.append_assoc]
          simp
        rw [e, List.length_append]
        omega
      rw [List.length_append] at hcn
      repeat' (first | (((with_reducible refine Sl.k_conv ?_; refine s_stringI hst evX asX inX inX inX ?_)) <;> (try refine nY ?_)) | (((with_reducible refine Sl.k_call ?_; ((refine s_call (bytes_c _ hst parts[i] (by omega)) inX rfl ?_; clear hst; rintro v w hst)))) <;> (try refine nY ?_) <;> (try replace hst := nH hst)) | ((fail_if_success (go_big_may)); (go_step)) | ((first | (with_reducible refine Sl.k_load ?_; ((refine s_ex hst (qt_ldp_list evX asX inX) ?_; rintro v ⟨hvl, hv1⟩))) | (with_reducible refine Sl.k_index ?_; (((refine s_ex hst (qt_index evX asX rfl inX inX omX omX) ?_); rintro v hp; (try simp only [Int.toNat_natCast, Int.toNat_natCast_add_one, Int.reduceToNat] at hp))))) <;> (try refine nY ?_)) | (with_reducible refine Sl.gate rfl ?_; (go_step)))
      refine s_append (j := 0) hst evX evX SlIn.h rfl inX inX inX (u8s_one _) (by omega) (by omega) (by decide) ?_
      clear hst; intro v' w hst
      (try refine nY ?_)
      (try replace hst := nH hst)
      replace hst := hst.drop
      repeat' (first | ((fail_if_success (go_big_may)); (go_step)) | (with_reducible refine Sl.gate rfl ?_; (go_step)))
      have hone' := sl_one hst
      go_roundw
      case rel =>
        refine ⟨i + 1, c ++ encB parts[i], by omega, by go_num, Lib.hid ?_, by rw [List.length_append]; exact hcn, hone', ?_⟩
        · rw [hc.out, List.take_succ_eq_append_getElem hlt, joinB, joinB, List.flatMap_append, List.append_assoc]
          simp
        · rw [u8s_append, List.length_append]
          exact hst
      case measure => simp [intOf]; omega
    · repeat' (first | ((fail_if_success (go_big_may)); (go_step)) | (with_reducible refine Sl.gate rfl ?_; (go_step)))
      go_ret
      refine ⟨_, rfl, ?_⟩
      rw [List.take_of_length_le (l := parts) (i := i) (by omega)] at hc
      rw [← hc.out]
      exact hst

set_option maxRecDepth 8000 in
set_option maxHeartbeats 400000 in
theorem short_c {S M} (w : World) (hst : St S M w) (h : List UInt8) (hl : h.length = 32) :
    Rets Tryd.prog 53 [.agg (u8s h).toArray] w fun v w' => v = .agg (u8s (h.take 16)).toArray ∧ St S M w' := by
  unfold Rets
  go_enter Tryd.func53, Tryd.ntmps53
  repeat' (first | ((fail_if_success (go_big_may)); (go_step)) | ((((first | (refine s_box hst evX rfl ?_; clear hst; intro bx w hst) | (refine s_alloc hst inX ?_; clear hst; intro bk w hst)))) <;> (try refine nY ?_) <;> (try replace hst := nH hst)))
  obtain ⟨S1, hS1, hst, hph⟩ := pt_box (α := Arr UInt8 32) (x := ⟨h⟩) hst.swap (by exact ⟨hl, rl_u8 h⟩) (by rw [u8s_length, hl]; rfl)
  refine s_ex hst (qt_arrSliceP (a := 0) (b := 16) evX hph inX inX (.inl ⟨rfl, rfl⟩) (.inr ⟨.i64, rfl⟩) (by omega) (by omega) (by unfold maxLen; omega)) ?_
  rintro v hv
  refine nY ?_
  repeat' (fail)
  have hvl : ((h.drop 0).take (16 - 0)).length = 16 := by rw [List.length_take, List.length_drop]; omega
  refine s_ex hst (qt_arrayAt evX hv inX hvl (by decide)) ?_
  rintro p hp
  refine nY ?_
  repeat' ((((with_reducible refine Sl.k_load ?_; (refine s_qt hst (by exact qt_ldp_flat evX asX inX inX rfl) ?_))) <;> (try refine nY ?_)))
  refine s_store hst rfl _ BoxIn.h inX (cs := u8s (h.take 16)) evX rfl (by rw [u8s_length]; exact hvl) (List.all_eq_true.2 (u8s_one _)) (by simp) ?_
  clear hst; intro w hst
  have hst : St S1 (.box bk (u8s (h.take 16)) 32 :: M) w := by
    simpa [u8s] using hst
  repeat' (((fail_if_success (go_big_may)); (go_step)))
  refine ret_cell rfl hst rfl 0 rfl inX (cs := u8s (h.take 16)) ?_ (by rw [u8s_length]; exact hvl) ⟨_, rfl, rfl, St.weaken hS1 hst.drop⟩
  rw [List.drop_zero, List.take_of_length_le (by rw [u8s_length]; exact Nat.le_of_eq hvl)]

set_option maxRecDepth 8000 in
set_option maxHeartbeats 400000 in
theorem digest_c {S M} (w : World) (hst : St S M w) (hG : Glob S) (tag : Int) (h0 : 0 ≤ tag ∧ tag ≤ 255) (vp : Value) (parts : List (List UInt8)) (hp : RSl S vp parts) (hs : sizeB parts ≤ 1048576) :
    Rets Tryd.prog 24 [.int .i64 tag, vp] w fun v w' => v = .agg (u8s (dig tag parts)).toArray ∧ St S M w' := by
  unfold Rets
  obtain ⟨t, rfl⟩ : ∃ t : Nat, tag = t := ⟨tag.toNat, by omega⟩
  have ht : [Value.int .u8 (t : Int)] = u8s [UInt8.ofNat t] := by
    simp only [u8s, List.map_cons, List.map_nil, UInt8.toNat_ofNat']
    congr 2
    omega
  go_enter Tryd.func24, Tryd.ntmps24
  repeat' (first | ((fail_if_success (go_big_may)); (go_step)) | (with_reducible refine Sl.gate rfl ?_; (go_step)) | (((((refine s_alloc hst inX ?_; clear hst; intro bk w hst)))) <;> (try refine nY ?_) <;> (try replace hst := nH hst)))
  refine s_lit (vs := [.int .u8 (t : Int)]) hst inX inX rfl rfl (by simp [Value.cells]) rfl (by omega) (by omega) ?_
  clear hst; intro x w hst
  have hst : St S (.sl x 5 1 [UInt8.ofNat t].length (u8s [UInt8.ofNat t]) :: .box bk (u8s (List.replicate 16 0)) 32 :: M) w := by rw [← ht]; exact hst
  refine nY ?_
  have hjl := joinB_len parts
  repeat' (first | (((with_reducible refine Sl.k_call ?_; ((refine s_call (join_c _ _ [UInt8.ofNat t] hst vp parts hp (by simp) hs) inX rfl ?_; clear hst; rintro v w hst)))) <;> (try refine nY ?_) <;> (try replace hst := nH hst)) | ((fail_if_success (go_big_may)); (go_step)))
  obtain ⟨S1, hS1, hst, hv⟩ := lit_u8 _ hst rfl rfl
  repeat' ((((with_reducible refine Sl.k_call ?_; (first | (refine s_call (sum_c _ hst (hG.mono hS1) _ _ hv (by simp; omega)) inX rfl ?_; clear hst; rintro v w ⟨rfl, hst⟩) | (refine s_call (short_c _ hst _ (hash_len _)) inX rfl ?_; clear hst; rintro v w ⟨rfl, hst⟩)))) <;> (try refine nY ?_) <;> (try replace hst := nH hst)))
  have hdl : (dig (t : Int) parts).length = 16 := dig_len _ _
  refine s_store hst rfl _ BoxIn.h inX (cs := u8s (dig (t : Int) parts)) evX rfl (by rw [u8s_length, hdl]) (List.all_eq_true.2 (u8s_one _)) (by simp [u8s]) ?_
  clear hst; intro w hst
  have hst : St S1 (.box bk (u8s (dig (t : Int) parts)) 32 :: M) w := by
    simpa [u8s] using hst
  repeat' (((fail_if_success (go_big_may)); (go_step)))
  refine ret_cell rfl hst rfl 0 rfl inX (cs := u8s (dig (t : Int) parts)) ?_ (by rw [u8s_length, hdl]) ⟨_, rfl, rfl, St.weaken hS1 hst.drop⟩
  rw [List.drop_zero, List.take_of_length_le (by rw [u8s_length, hdl]; exact Nat.le_refl _)]
end Go.Proofs.YtjapdhaimbalkaaDoor

/- Package merkle: plain mathematics. -/
namespace Go.Proofs.YtjapdhaimbalkaaDoor
set_option linter.unusedSimpArgs false
set_option linter.unusedVariables false
open Go.RowKit Go.Sl

def splitF : Nat → Nat → Nat → Nat
  | 0, _, k => k
  | f + 1, n, k => if 2 * k < n then splitF f n (2 * k) else k
/-- The leaves of the left subtree of a tree over n leaves. -/
def splitM (n : Nat) : Nat := splitF n n 1
theorem splitF_spec : ∀ (f n k : Nat), 1 ≤ k → k < n → 1 ≤ splitF f n k ∧ splitF f n k < n
  | 0, n, k, h1, h2 => ⟨h1, h2⟩
  | f + 1, n, k, h1, h2 => by
    unfold splitF
    split
    · exact splitF_spec f n (2 * k) (by omega) (by omega)
    · exact ⟨h1, h2⟩
theorem splitM_spec {n : Nat} (h : 2 ≤ n) : 1 ≤ splitM n ∧ splitM n < n := splitF_spec n n 1 (by omega) (by omega)
theorem splitF_stop {f n k : Nat} (h : ¬ 2 * k < n) : splitF f n k = k := by cases f <;> simp [splitF, h]
theorem splitF_go : ∀ (f n k : Nat), 2 * k < n → n ≤ f + k → splitF f n k = splitF (f - 1) n (2 * k)
  | 0, n, k, h1, h2 => by omega
  | f + 1, n, k, h1, h2 => by rw [splitF, if_pos h1]; rfl
theorem splitF_more : ∀ (f g n k : Nat), 1 ≤ k → n ≤ f + k → n ≤ g + k → splitF f n k = splitF g n k
  | 0, g, n, k, h0, h1, h2 => by rw [splitF_stop (by omega), splitF_stop (by omega)]
  | f + 1, 0, n, k, h0, h1, h2 => by rw [splitF_stop (by omega), splitF_stop (by omega)]
  | f + 1, g + 1, n, k, h0, h1, h2 => by
    unfold splitF
    split
    · exact splitF_more f g n (2 * k) (by omega) (by omega) (by omega)
    · rfl

def leafM (d : Dg) : Dg := ⟨dig 1 [d.l]⟩
def nodeM (a b : Dg) : Dg := ⟨dig 2 [a.l, b.l]⟩
def emptyM : Dg := ⟨dig 1 []⟩
def rootF : Nat → List Dg → Dg
  | _, [] => emptyM
  | _, [d] => leafM d
  | 0, _ => emptyM
  | f + 1, l => nodeM (rootF f (l.take (splitM l.length))) (rootF f (l.drop (splitM l.length)))
def rootM (l : List Dg) : Dg := rootF l.length l
theorem rootF_more : ∀ (f g : Nat) (l : List Dg), l.length ≤ f → l.length ≤ g → rootF f l = rootF g l
  | f, g, [], _, _ => by cases f <;> cases g <;> rfl
  | f, g, [d], _, _ => by cases f <;> cases g <;> rfl
  | 0, g, a :: b :: r, h, _ => by simp at h
  | f + 1, 0, a :: b :: r, _, h => by simp at h
  | f + 1, g + 1, a :: b :: r, h1, h2 => by
    have hs := splitM_spec (n := (a :: b :: r).length) (by simp)
    have e1 : ((a :: b :: r).take (splitM (a :: b :: r).length)).length ≤ f := by rw [List.length_take]; omega
    have e2 : ((a :: b :: r).drop (splitM (a :: b :: r).length)).length ≤ f := by rw [List.length_drop]; omega
    have e3 : ((a :: b :: r).take (splitM (a :: b :: r).length)).length ≤ g := by rw [List.length_take]; omega
    have e4 : ((a :: b :: r).drop (splitM (a :: b :: r).length)).length ≤ g := by rw [List.length_drop]; omega
    rw [rootF, rootF, rootF_more f g _ e1 e3, rootF_more f g _ e2 e4]
    all_goals simp
theorem rootM_nil : rootM [] = emptyM := rfl
theorem rootM_one (d : Dg) : rootM [d] = leafM d := rfl
theorem rootM_two {l : List Dg} (h : 2 ≤ l.length) : rootM l = nodeM (rootM (l.take (splitM l.length))) (rootM (l.drop (splitM l.length))) := by
  have hs := splitM_spec h
  match l, h with
  | a :: b :: r, h =>
    have e1 : ((a :: b :: r).take (splitM (a :: b :: r).length)).length ≤ r.length + 1 := by rw [List.length_take]; simp at hs ⊢; omega
    have e2 : ((a :: b :: r).drop (splitM (a :: b :: r).length)).length ≤ r.length + 1 := by rw [List.length_drop]; simp at hs ⊢; omega
    show rootF (r.length + 1 + 1) (a :: b :: r) = _
    rw [rootF, rootM, rootM, rootF_more _ (r.length + 1) _ (Nat.le_refl _) e1, rootF_more _ (r.length + 1) _ (Nat.le_refl _) e2]
    all_goals simp

/-- The proof for leaf i. -/
def proofF : Nat → List Dg → Nat → List Dg
  | 0, _, _ => []
  | f + 1, l, i => if l.length < 2 then [] else
    if i < splitM l.length then proofF f (l.take (splitM l.length)) i ++ [rootM (l.drop (splitM l.length))]
    else proofF f (l.drop (splitM l.length)) (i - splitM l.length) ++ [rootM (l.take (splitM l.length))]
def proofM (l : List Dg) (i : Nat) : List Dg := proofF l.length l i
theorem proofF_more : ∀ (f g : Nat) (l : List Dg) (i : Nat), l.length ≤ f → l.length ≤ g → proofF f l i = proofF g l i
  | 0, 0, l, i, _, _ => rfl
  | 0, g + 1, l, i, h, _ => by rw [proofF, proofF, if_pos (by omega)]
  | f + 1, 0, l, i, _, h => by rw [proofF, proofF, if_pos (by omega)]
  | f + 1, g + 1, l, i, h1, h2 => by
    unfold proofF
    by_cases h : l.length < 2
    · rw [if_pos h, if_pos h]
    · have hs := splitM_spec (n := l.length) (by omega)
      have e1 : (l.take (splitM l.length)).length ≤ f := by rw [List.length_take]; omega
      have e2 : (l.drop (splitM l.length)).length ≤ f := by rw [List.length_drop]; omega
      have e3 : (l.take (splitM l.length)).length ≤ g := by rw [List.length_take]; omega
      have e4 : (l.drop (splitM l.length)).length ≤ g := by rw [List.length_drop]; omega
      rw [if_neg h, if_neg h, proofF_more f g _ i e1 e3, proofF_more f g _ _ e2 e4]
theorem proofM_one {l : List Dg} (h : l.length < 2) (i : Nat) : proofM l i = [] := by
  unfold proofM
  cases e : l.length with
  | zero => rfl
  | succ n => rw [proofF, if_pos h]
theorem proofM_left {l : List Dg} {i : Nat} (h : 2 ≤ l.length) (hi : i < splitM l.length) : proofM l i = proofM (l.take (splitM l.length)) i ++ [rootM (l.drop (splitM l.length))] := by
  have hs := splitM_spec h
  obtain ⟨n, hn⟩ : ∃ n, l.length = n + 1 := ⟨l.length - 1, by omega⟩
  have e1 : (l.take (splitM l.length)).length ≤ n := by rw [List.length_take]; omega
  rw [proofM, proofM, proofF_more _ n _ _ (Nat.le_refl _) e1]
  conv => lhs; rw [hn, proofF]
  rw [if_neg (by omega), if_pos hi]
theorem proofM_right {l : List Dg} {i : Nat} (h : 2 ≤ l.length) (hi : ¬ i < splitM l.length) : proofM l i = proofM (l.drop (splitM l.length)) (i - splitM l.length) ++ [rootM (l.take (splitM l.length))] := by
  have hs := splitM_spec h
  obtain ⟨n, hn⟩ : ∃ n, l.length = n + 1 := ⟨l.length - 1, by omega⟩
  have e1 : (l.drop (splitM l.length)).length ≤ n := by rw [List.length_drop]; omega
  rw [proofM, proofM, proofF_more _ n _ _ (Nat.le_refl _) e1]
  conv => lhs; rw [hn, proofF]
  rw [if_neg (by omega), if_neg hi]

/-- The sides of the path, from the root on. -/
def sidesF : Nat → Nat → Nat → List Bool
  | 0, _, _ => []
  | f + 1, n, i => if n < 2 then [] else if i < splitM n then true :: sidesF f (splitM n) i else false :: sidesF f (n - splitM n) (i - splitM n)
def sidesM (n i : Nat) : List Bool := sidesF n n i
theorem sidesF_more : ∀ (f g n i : Nat), n ≤ f → n ≤ g → sidesF f n i = sidesF g n i
  | 0, 0, n, i, _, _ => rfl
  | 0, g + 1, n, i, h, _ => by rw [sidesF, sidesF, if_pos (by omega)]
  | f + 1, 0, n, i, _, h => by rw [sidesF, sidesF, if_pos (by omega)]
  | f + 1, g + 1, n, i, h1, h2 => by
    unfold sidesF
    by_cases h : n < 2
    · rw [if_pos h, if_pos h]
    · have hs := splitM_spec (n := n) (by omega)
      rw [if_neg h, if_neg h, sidesF_more f g (splitM n) i (by omega) (by omega), sidesF_more f g (n - splitM n) _ (by omega) (by omega)]
theorem sidesM_one {n : Nat} (h : n < 2) (i : Nat) : sidesM n i = [] := by
  unfold sidesM
  cases n with
  | zero => rfl
  | succ n => rw [sidesF, if_pos h]
theorem sidesM_left {n i : Nat} (h : 2 ≤ n) (hi : i < splitM n) : sidesM n i = true :: sidesM (splitM n) i := by
  have hs := splitM_spec h
  obtain ⟨m, rfl⟩ : ∃ m, n = m + 1 := ⟨n - 1, by omega⟩
  have e : sidesM (m + 1) i = true :: sidesF m (splitM (m + 1)) i := by
    show sidesF (m + 1) (m + 1) i = _
    rw [sidesF, if_neg (by omega), if_pos hi]
  rw [e, sidesM, sidesF_more m (splitM (m + 1)) _ _ (by omega) (Nat.le_refl _)]
theorem sidesM_right {n i : Nat} (h : 2 ≤ n) (hi : ¬ i < splitM n) : sidesM n i = false :: sidesM (n - splitM n) (i - splitM n) := by
  have hs := splitM_spec h
  obtain ⟨m, rfl⟩ : ∃ m, n = m + 1 := ⟨n - 1, by omega⟩
  have e : sidesM (m + 1) i = false :: sidesF m (m + 1 - splitM (m + 1)) (i - splitM (m + 1)) := by
    show sidesF (m + 1) (m + 1) i = _
    rw [sidesF, if_neg (by omega), if_neg hi]
  rw [e, sidesM, sidesF_more m (m + 1 - splitM (m + 1)) _ _ (by omega) (Nat.le_refl _)]

def stepV (d : Dg) (x : Bool × Dg) : Dg := if x.1 then nodeM d x.2 else nodeM x.2 d
/-- The digest that a proof yields. -/
def foldV (sides : List Bool) (leaf : Dg) (proof : List Dg) : Dg := (sides.reverse.zip proof).foldl stepV (leafM leaf)
def verifyM (root : Dg) (n i : Nat) (leaf : Dg) (proof : List Dg) : Bool := decide (i < n) && (decide ((sidesM n i).length = proof.length) && decide (foldV (sidesM n i) leaf proof = root))

theorem zip_snoc {α β : Type} : ∀ (a : List α) (b : List β) (x : α) (y : β), a.length = b.length → (a ++ [x]).zip (b ++ [y]) = a.zip b ++ [(x, y)]
  | [], [], _, _, _ => rfl
  | _ :: a, _ :: b, x, y, h => by simp [zip_snoc a b x y (by simpa using h)]
theorem foldV_snoc (sides : List Bool) (b : Bool) (leaf : Dg) (proof : List Dg) (s : Dg) (h : sides.length = proof.length) : foldV (b :: sides) leaf (proof ++ [s]) = stepV (foldV sides leaf proof) (b, s) := by
  rw [foldV, List.reverse_cons, zip_snoc _ _ _ _ (by simpa using h), List.foldl_append]
  rfl

theorem complete : ∀ (m : Nat) (l : List Dg) (n i : Nat), l.length = n → n ≤ m → (hi : i < l.length) → (sidesM n i).length = (proofM l i).length ∧ foldV (sidesM n i) l[i] (proofM l i) = rootM l
  | 0, l, n, i, e, h, hi => by omega
  | m + 1, l, n, i, e, h, hi => by
    subst e
    by_cases h2 : l.length < 2
    · have h1 : l.length = 1 := by omega
      obtain ⟨d, rfl⟩ := List.length_eq_one_iff.1 h1
      obtain rfl : i = 0 := by simpa using hi
      exact ⟨rfl, rfl⟩
    · have h2 : 2 ≤ l.length := by omega
      have hs := splitM_spec h2
      rw [rootM_two h2]
      by_cases hk : i < splitM l.length
      · have hl : (l.take (splitM l.length)).length = splitM l.length := by rw [List.length_take]; omega
        have ih := complete m (l.take (splitM l.length)) (splitM l.length) i hl (by omega) (by omega)
        rw [sidesM_left h2 hk, proofM_left h2 hk]
        refine ⟨by simp [ih.1], ?_⟩
        rw [foldV_snoc _ _ _ _ _ ih.1, ← ih.2, List.getElem_take]
        rfl
      · have hl : (l.drop (splitM l.length)).length = l.length - splitM l.length := by rw [List.length_drop]
        have ih := complete m (l.drop (splitM l.length)) (l.length - splitM l.length) (i - splitM l.length) hl (by omega) (by omega)
        rw [sidesM_right h2 hk, proofM_right h2 hk]
        refine ⟨by simp [ih.1], ?_⟩
        rw [foldV_snoc _ _ _ _ _ ih.1, ← ih.2, List.getElem_drop]
        simp only [show splitM l.length + (i - splitM l.length) = i by omega]
        rfl
theorem verify_complete {l : List Dg} {i : Nat} (hi : i < l.length) : verifyM (rootM l) l.length i l[i] (proofM l i) = true := by
  have := complete l.length l l.length i rfl (Nat.le_refl _) hi
  simp [verifyM, hi, this.1, this.2]
theorem sides_40 : ∀ n < 41, ∀ i < n, (sidesM n i).length ≤ 6 := by decide +kernel
theorem proof_40 {l : List Dg} {i : Nat} (h : l.length ≤ 40) (hi : i < l.length) : (proofM l i).length ≤ 6 := by
  rw [← (complete l.length l l.length i rfl (Nat.le_refl _) hi).1]
  exact sides_40 _ (by omega) _ hi
end Go.Proofs.YtjapdhaimbalkaaDoor
