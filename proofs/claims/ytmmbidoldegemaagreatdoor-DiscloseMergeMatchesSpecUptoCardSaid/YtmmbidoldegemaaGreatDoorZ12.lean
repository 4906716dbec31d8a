/- Part 13 of the proof that the law of the last part holds; no conditions. -/
import Derived.Lib.SliceRun
import Derived.Test.YtmmbidoldegemaaGreatDoorZ03
set_option linter.unusedSimpArgs false
set_option linter.unusedVariables false
set_option maxRecDepth 8000
set_option maxHeartbeats 8000000
namespace Go.Proofs.YtmmbidoldegemaaGreatDoor
open Go.RowKit Go.Sl
def Se (x:UInt32) (k:Nat):UInt32:=shl x (32 - k) ||| shr x k
def M5 (x:UInt32) (ns:List Nat):UInt32:=ns.foldl (fun a k=>a ^^^ Se x k) 0
def KR (b:List UInt8):UInt32:=b.foldl (fun n x=>shl n 8 ||| UInt32.ofNat x.toNat) 0
def L5 (blk:List UInt8) (w:List UInt32) (i:Nat):UInt32 :=
 if i < 16 then KR ((blk.drop (4 * i)).take 4)
 else w.getD (i - 16) 0+(M5 (w.getD (i - 15) 0) [7,18] ^^^ shr (w.getD (i - 15) 0) 3)+w.getD (i - 7) 0+(M5 (w.getD (i - 2) 0) [17,19] ^^^ shr (w.getD (i - 2) 0) 10)
def EU (blk:List UInt8):Nat→List UInt32
 | 0=>List.replicate 64 0
 | n+1=>(EU blk n).set n (L5 blk (EU blk n) n)
theorem NL (blk:List UInt8):∀ n,(EU blk n).length=64
 | 0=>by simp [EU]
 | n+1=>by rw [EU,List.length_set,NL blk n]
structure S8 where
 a:UInt32
 b:UInt32
 c:UInt32
 d:UInt32
 e:UInt32
 f:UInt32
 g:UInt32
 h:UInt32
 deriving DecidableEq
def S8.l (s:S8):List UInt32:=[s.a,s.b,s.c,s.d,s.e,s.f,s.g,s.h]
def dL (s:S8) (k w:UInt32):UInt32:=s.h+M5 s.e [6,11,25]+((s.e &&& s.f) ^^^ ((4294967295 ^^^ s.e) &&& s.g))+k+w
def gc (s:S8):UInt32:=M5 s.a [2,13,22]+(((s.a &&& s.b) ^^^ (s.a &&& s.c)) ^^^ (s.b &&& s.c))
def Uw (s:S8) (k w:UInt32):S8:=⟨dL s k w+gc s,s.a,s.b,s.c,s.d+dL s k w,s.e,s.f,s.g⟩
def He:List UInt32:=[
 0x428a2f98,0x71374491,0xb5c0fbcf,0xe9b5dba5,0x3956c25b,0x59f111f1,0x923f82a4,0xab1c5ed5,
 0xd807aa98,0x12835b01,0x243185be,0x550c7dc3,0x72be5d74,0x80deb1fe,0x9bdc06a7,0xc19bf174,
 0xe49b69c1,0xefbe4786,0x0fc19dc6,0x240ca1cc,0x2de92c6f,0x4a7484aa,0x5cb0a9dc,0x76f988da,
 0x983e5152,0xa831c66d,0xb00327c8,0xbf597fc7,0xc6e00bf3,0xd5a79147,0x06ca6351,0x14292967,
 0x27b70a85,0x2e1b2138,0x4d2c6dfc,0x53380d13,0x650a7354,0x766a0abb,0x81c2c92e,0x92722c85,
 0xa2bfe8a1,0xa81a664b,0xc24b8b70,0xc76c51a3,0xd192e819,0xd6990624,0xf40e3585,0x106aa070,
 0x19a4c116,0x1e376c08,0x2748774c,0x34b0bcb5,0x391c0cb3,0x4ed8aa4a,0x5b9cca4f,0x682e6ff3,
 0x748f82ee,0x78a5636f,0x84c87814,0x8cc70208,0x90befffa,0xa4506ceb,0xbef9a3f7,0xc67178f2]
def FH:S8:=⟨0x6a09e667,0xbb67ae85,0x3c6ef372,0xa54ff53a,0x510e527f,0x9b05688c,0x1f83d9ab,0x5be0cd19⟩
def H0 (w:List UInt32) (s:S8):Nat→S8
 | 0=>s
 | n+1=>Uw (H0 w s n) (He.getD n 0) (w.getD n 0)
def fb (s t:S8):S8:=⟨s.a+t.a,s.b+t.b,s.c+t.c,s.d+t.d,s.e+t.e,s.f+t.f,s.g+t.g,s.h+t.h⟩
def Ym (h:S8) (blk:List UInt8):S8:=fb (H0 (EU blk 64) h 64) h
def be (n:Nat):Nat→List UInt8
 | 0=>[]
 | m+1=>UInt8.ofNat (n / 256 ^ m)::be n m
theorem MN (n:Nat):∀ m,(be n m).length=m
 | 0=>rfl
 | m+1=>by rw [be,List.length_cons,MN n m]
def IOa (n:Nat):Nat:=(119 - n % 64) % 64
def Fl (b:List UInt8):List UInt8:=b++[128]++List.replicate (IOa b.length) 0++be (8 * b.length) 8
theorem Q3 (b:List UInt8):(Fl b).length=b.length+9+IOa b.length:=by
 simp [Fl,MN];omega
theorem ZK (b:List UInt8):(Fl b).length % 64=0:=by
 rw [Q3,IOa];omega
def Ig (m:List UInt8):Nat→S8
 | 0=>FH
 | n+1=>Ym (Ig m n) ((m.drop (64 * n)).take 64)
def O3 (s:S8):List UInt8:=s.l.flatMap fun x=>be x.toNat 4
def Ib (b:List UInt8):List UInt8:=O3 (Ig (Fl b) ((Fl b).length / 64))
theorem Xq (s:S8):(O3 s).length=32:=by simp [O3,S8.l,MN]
theorem LI (b:List UInt8):(Ib b).length=32:=Xq _
theorem U2 (b:List UInt8) (i:Nat) (h:i < b.length):KR (b.take (i+1))=shl (KR (b.take i)) 8 ||| UInt32.ofNat b[i].toNat:=by
 rw [List.take_succ_eq_append_getElem h,KR,List.foldl_append];rfl
theorem dI {S M} (w:World) (hst:St S M w) (vb:Value) (b:List UInt8) (hb:RSl S vb b) (hm:b.length≤1048576) :
  Ad Tryz.prog 146 [vb] w fun v w'=>v=.int .u32 ((KR b).toNat:Int)∧St S M w':=by
 unfold Ad;go_enter Tryz.func146,Tryz.ntmps146;repeat' (first|(apply gK ();go_step)|apply sY ()|fail)
 go_loopw [3,8] (fun u v wr=>∃ (i:Nat) (x:UInt32),i≤b.length∧v=.int .i64 i∧u=.int .u32 (x.toNat:Int)∧Hid (x=KR (b.take i))∧St S M wr) (fun _ v _=>b.length - (intOf v).toNat)
 case atStart=>exact ⟨0,0,Nat.zero_le _,rfl,rfl,Lib.hid rfl,hst⟩
 case round =>
  clear hst;obtain ⟨i,x,hi,rfl,rfl,hx,hst⟩:=hrel;by_cases hlt:i < b.length
  ·repeat' (first|(with_reducible refine kB ?_;refine Ag hst (by first|exact QZ rfl rfl|exact OV rfl rfl Af) ?_<;>(try refine nY ?_))|(with_reducible refine kV ?_;refine Ag hst (by exact Si rfl Aa Aa) ?_<;>(try refine nY ?_))|(apply gK ();go_step)|(with_reducible refine kL ?_;refine Ag hst (by exact Io Ab Ak Aa) ?_<;>(try refine nY ?_))|(apply sJ ();intro v hp)|fail)
   go_roundw
   case rel=>exact ⟨i+1,_,by omega,by go_num,rfl,Lib.hid (by rw [U2 b i hlt,hx.out]),hst⟩
   case measure=>simp [intOf];omega
  ·repeat' (first|(apply gK ();go_step)|fail)
   go_ret;exact ⟨_,rfl,by rw [hx.out,List.take_of_length_le (by omega)];rfl,hst⟩
theorem WX:∀ n < 32,1≤n→bits .and .u64 (IntKind.u64.wrap (-((n:Nat):Int))) 31=((32 - n:Nat):Int):=by decide +kernel
theorem bY {S M} (w:World) (hst:St S M w) (x:UInt32) (n:Nat) (h0:1≤n) (h1:n < 32) :
  Ad Tryz.prog 149 [.int .u32 (x.toNat:Int),.int .i64 (-(n:Int))] w fun v w'=>v=.int .u32 ((Se x n).toNat:Int)∧St S M w':=by
 unfold Ad;have ha:=WX n h1 h0;go_enter Tryz.func149,Tryz.ntmps149;repeat' (first|(with_reducible refine kB ?_;refine Ag hst (by first|exact QZ rfl rfl|exact OV rfl rfl Af|exact LC rfl rfl Af) ?_<;>(try refine nY ?_))|(apply gK ();go_step)|fail)
 go_ret
 exact ⟨_,rfl,by
  rw [show ((32:Int) - ((32 - n:Nat):Int)).toNat=n by omega];rfl,hst⟩
theorem Zr {S M} (w:World) (hst:St S M w) (x:UInt32) (n:Int) (h0:1≤n) (h1:n < 32) :
  Ad Tryz.prog 149 [.int .u32 (x.toNat:Int),.int .i64 (-n)] w fun v w'=>v=.int .u32 ((Se x n.toNat).toNat:Int)∧St S M w':=by
 obtain ⟨m,rfl⟩:∃ m:Nat,n=m:=⟨n.toNat,by omega⟩
 exact bY w hst x m (by omega) (by omega)
def KJ (x:UInt32) (ns:List Int):UInt32:=M5 x (ns.map Int.toNat)
theorem Ux (x:UInt32) (ns:List Int) (i:Nat) (h:i < ns.length):KJ x (ns.take (i+1))=KJ x (ns.take i) ^^^ Se x ns[i].toNat:=by
 rw [List.take_succ_eq_append_getElem h,KJ,M5,List.map_append,List.foldl_append];rfl
theorem bX {S M} (w:World) (hst:St S M w) (x:UInt32) (vn:Value) (c:List Value) (ns:List Int) {k m:Nat} (hs:SlIn M vn k 3 1 m c) (hc:c=cF Bf ns) (hm:m=ns.length) (hn:∀ n∈ns,1≤n∧n < 32) (hl:ns.length≤10) :
  Ad Tryz.prog 147 [.int .u32 (x.toNat:Int),vn] w fun v w'=>v=.int .u32 ((KJ x ns).toNat:Int)∧St S M w':=by
 unfold Ad;subst hc;subst hm;go_enter Tryz.func147,Tryz.ntmps147;repeat' (first|(apply gK ();go_step)|apply sY ()|fail)
 go_loopw [5,10] (fun u v wr=>∃ (i:Nat) (y:UInt32),i≤ns.length∧v=.int .i64 i∧u=.int .u32 (y.toNat:Int)∧Hid (y=KJ x (ns.take i))∧St S M wr) (fun _ v _=>ns.length - (intOf v).toNat)
 case atStart=>exact ⟨0,0,Nat.zero_le _,rfl,rfl,Lib.hid rfl,hst⟩
 case round =>
  clear hst;obtain ⟨i,y,hi,rfl,rfl,hy,hst⟩:=hrel;by_cases hlt:i < ns.length
  ·obtain ⟨hb1,hb2⟩:=hn ns[i] (List.getElem_mem hlt);repeat' (first|(with_reducible refine kB ?_;refine Ag hst (by exact E8 rfl rfl) ?_<;>(try refine nY ?_))|(with_reducible refine kI ?_;(refine An hst (Aq hst Ab SlIn.h rfl Aa Aa Af Af) ?_);rintro v hp;(try simp only [Int.toNat_natCast,Int.toNat_natCast_add_one,Int.reduceToNat] at hp)<;>(try refine nY ?_))|(apply gK ();go_step)|(apply kc ();refine sc (Zr _ hst x ns[i] hb1 hb2) ?_;clear hst;rintro v w ⟨rfl,hst⟩)|(with_reducible refine kL ?_;refine Ag hst (by exact J9 Ab Ak SlIn.h Aa Af) ?_<;>(try refine nY ?_))|fail)
   go_roundw
   case rel=>exact ⟨i+1,_,by omega,by go_num,rfl,Lib.hid (by rw [Ux x ns i hlt,hy.out]),hst⟩
   case measure=>simp [intOf];omega
  ·repeat' (first|(apply gK ();go_step)|fail)
   go_ret;exact ⟨_,rfl,by rw [hy.out,List.take_of_length_le (by omega)];rfl,hst⟩
theorem bg (n m:Nat):be n (m+1)=UInt8.ofNat (n / 256 ^ m)::be n m:=rfl
theorem WI (n i:Nat):((n:Int) / 2 ^ (8 * i) % 256)=((UInt8.ofNat (n / 256 ^ i)).toNat:Int):=by
 have e2:((2:Int) ^ (8 * i))=((256 ^ i:Nat):Int):=by
  rw [show (256:Nat)=2 ^ 8 from rfl,← Nat.pow_mul]
  push_cast
  rfl
 rw [e2,← Int.natCast_ediv,UInt8.toNat_ofNat'];rfl
theorem QM {S M} (w:World) (vb:Value) (b:List UInt8) (n:Nat) (hst:St S (.sl vb 5 1 b.length (u8s b)::M) w) (N many:Nat) (hN:N < 18446744073709551616) (hk:many≤8) (hn:n+many≤16777216) (hb:b.length≤n) :
  Ad Tryz.prog 139 [vb,.int .u64 (N:Int),.int .i64 (many:Int)] w fun v w'=>St S (.sl v 5 1 (b++be N many).length (u8s (b++be N many))::M) w':=by
 unfold Ad;have h1:=AW hst;go_enter Tryz.func139,Tryz.ntmps139;repeat' (first|(apply gK ();go_step)|fail)
 go_loopw [0,7] (fun va v wr=>∃ (j:Nat) (k:Int) (c:List UInt8),j≤many∧v=.int .i64 k∧k=(j:Int) - 1∧Hid (c++be N j=b++be N many)∧c.length+j≤n+many∧va.oneCell'=true∧St S (.sl va 5 1 c.length (u8s c)::M) wr) (fun _ v _=>(intOf v+1).toNat)
 case atStart=>exact ⟨many,_,b,by omega,rfl,by omega,Lib.hid rfl,by omega,h1,hst⟩
 case round =>
  clear hst;obtain ⟨j,k,c,hj,rfl,hk',hc,hcl,h2,hst⟩:=hrel;rcases Nat.eq_zero_or_pos j with rfl|hj0
  ·obtain rfl:k = -1:=by omega
   clear hk';repeat' (first|(apply gK ();go_step)|fail)
   go_ret;have e:c=b++be N many:=by rw [← hc.out];simp [be]
   subst e;exact ⟨_,rfl,hst⟩
  ·obtain ⟨i,rfl⟩:∃ i,j=i+1:=⟨j - 1,by omega⟩
   obtain rfl:k=(i:Int):=by omega
   clear hk';repeat' (first|(apply gK ();go_step)|fail)
   refine AA (vs:=[.int .u8 ((N:Int) / 2 ^ (8 * i) % 256)]) hst Aa Aa rfl rfl (by simp [Value.cells]) rfl (by omega) (by omega) ?_;clear hst;intro u w hst;refine nY ?_;refine AG (j:=0) hst Ab Ab SlIn.h rfl Aa Aa Aa (by simp [Value.cells,Value.oneCell']) (by omega) (by omega) (by decide) ?_;clear hst;intro v' w hst;refine nY ?_;(try replace hst:=nH hst);replace hst:=hst.drop;repeat' (first|(apply gK ();go_step)|fail)
   have h3:=AW hst;go_roundw
   case rel=>exact ⟨i,_,c++[UInt8.ofNat (N / 256 ^ i)],by omega,rfl,by omega,Lib.hid (by rw [← hc.out,bg];simp),by simp;omega,h3,by rw [List.length_append,Hw,← WI];exact hst⟩
   case measure=>simp [intOf]
instance jM {n:Nat}:FlatC (Ge UInt32 n) (fun a=>cF Cs a.l):=⟨fun {S cs x} h=>by
 obtain ⟨_,h1,h2⟩:=h;have hz:Rep.z UInt32=1:=rfl;rw [hz,Nat.mul_one] at h1;apply List.ext_getElem?;intro j;rcases Nat.lt_or_ge j x.l.length with hj|hj
 ·have e1:=h2 j _ (List.getElem?_eq_getElem hj);rw [hz,Nat.mul_one] at e1;have e2:=Hf x.l j hj
  have e3:(cs.drop j).take 1=((cF Cs x.l).drop j).take 1:=by
   rw [e2,List.getD_eq_getElem?_getD,List.getElem?_eq_getElem hj];exact e1
  have e4:=congrArg (·[0]?) e3
  simpa [List.getElem?_take,List.getElem?_drop] using e4
 ·rw [List.getElem?_eq_none (by omega),List.getElem?_eq_none (by rw [JI];omega)]⟩
abbrev Il (s:S8):List Value:=[.int .u32 (s.a.toNat:Int),.int .u32 (s.b.toNat:Int),.int .u32 (s.c.toNat:Int),.int .u32 (s.d.toNat:Int),.int .u32 (s.e.toNat:Int),.int .u32 (s.f.toNat:Int),.int .u32 (s.g.toNat:Int),.int .u32 (s.h.toNat:Int)]
abbrev f7 (s:S8):Value:=.agg (Il s).toArray
theorem IY {S':Ac} {M M':List Chunk} (w:World) (hM:Suf M M') (hst:St S' M' w) (x:UInt32) (vn:Value) (c:List Value) (ns:List Int) {k m:Nat} (hs:SlIn M vn k 3 1 m c) (hc:c=cF Bf ns) (hm:m=ns.length) (hn:∀ n∈ns,1≤n∧n < 32) (hl:ns.length≤10) :
  Ad Tryz.prog 147 [.int .u32 (x.toNat:Int),vn] w fun v w'=>v=.int .u32 ((KJ x ns).toNat:Int)∧St S' M' w' :=
 let ⟨_,i⟩:=hM.slIn hs
 bX w hst x vn c ns i hc hm hn hl
def To (h:List UInt32):Nat→List UInt32→List UInt32
 | 0,v=>v
 | n+1,v=>(To h n v).set n ((To h n v).getD n 0+h.getD n 0)
set_option maxRecDepth 100000 in
theorem bC (blk:List UInt8):cF Cs (EU blk 0)=List.replicate 64 (.int .u32 0):=rfl
set_option maxRecDepth 100000 in
theorem Td {S M} (w:World) (hst:St S M w) (hK:Pt S (.pointer (some ⟨1,0,none⟩)) (⟨He⟩:Ge UInt32 64)) (h:S8) (vb:Value) (blk:List UInt8) (hb:RSl S vb blk) (hl:blk.length=64) :
  Ad Tryz.prog 140 [f7 h,vb] w fun v w'=>v=f7 (Ym h blk)∧St S M w':=by
 unfold Ad;have h64:64≤blk.length∧blk.length≤64:=by omega
 clear hl;go_enter Tryz.func140,Tryz.ntmps140;repeat' (first|(apply gK ();go_step)|(apply sC ();clear hst;intro bx w hst)|(apply sZ ();clear hst;intro bk w hst)|fail)
 rename_i b4 _ _ _;have hst:St S (.box bk (cF Cs (EU blk 0)) 228::.box b4 (Il ⟨0,0,0,0,0,0,0,0⟩) 220::.box bx (Il h) 220::M) w:=by rw [bC];exact hst
 go_loopw [15] (fun v wr=>∃ (i:Nat) (ws:List UInt32),i≤64∧v=.int .i64 i∧Hid (ws=EU blk i)∧(64≤ws.length∧ws.length≤64)∧St S (.box bk (cF Cs ws) 228::.box b4 (Il ⟨0,0,0,0,0,0,0,0⟩) 220::.box bx (Il h) 220::M) wr) (fun v _=>64 - (intOf v).toNat)
 case atStart=>exact ⟨0,_,by omega,rfl,Lib.hid rfl,by rw [NL];omega,hst⟩
 case round =>
  clear hst;obtain ⟨i,ws,hi,rfl,hws,hwl,hst⟩:=hrel;by_cases hlt:i < 64
  ·by_cases h16:i < 16
   ·repeat' (first|(apply gK ();go_step)|fail)
    refine QR (a:=4 * i) (b:=4 * i+4) Ab hb Aa Aa (.inr ⟨.i64,by simp [Ai,AX]⟩) (.inr ⟨.i64,by simp [Ai,AX]⟩) (.inl rfl) (by omega) (by omega) ?_;intro vs hvs;refine nY ?_;repeat' (first|(with_reducible refine kI ?_;refine Ag hst (AZ rfl rfl Aa Aa Af Af) ?_<;>(try refine nY ?_))|(with_reducible refine kS ?_;refine Oo hst rfl BoxIn.h Aa Ab Af ?_;clear hst;intro w hst<;>(try refine nY ?_)<;>(try replace hst:=nH hst))|(apply gK ();go_step)|(apply kc ();refine sc (dI _ hst vs _ hvs (by simp;omega)) ?_;clear hst;rintro v w ⟨rfl,hst⟩)|fail)
    go_roundw
    case rel=>exact ⟨i+1,_,by omega,by go_num,Lib.hid (by rw [EU,← hws.out,L5,if_pos h16,Nat.add_sub_cancel_left]),by rw [List.length_set];omega,hst⟩
    case measure=>simp [intOf];omega
   ·repeat' (first|(apply gK ();go_step)|fail)
    refine E6 hst kr kr ?_
    repeat (((first|(with_reducible refine Sl.kq_load ?_;(refine Cw (by exact I1 Ab BoxIn.h Aa Af) ?_))|(with_reducible refine Sl.kq_index ?_;(refine Cw (AZ rfl rfl Aa Aa Af Af) ?_))|(refine Sl.kq_plain rfl ?_;(refine Cw (by first|exact C4 Ab|exact C3 rfl rfl Af) ?_)))<;>(try refine nY ?_)))
    refine Gv ?_;clear hst;intro w hst;repeat' (first|(apply gK ();go_step)|fail)
    refine AF hst kr ?_;clear hst;intro ops;(try refine nY ?_);refine td 0 rfl ?_;refine td 1 rfl ?_;refine tq 2 rfl (by exact C3 rfl rfl Af) ?_;refine tq 3 rfl (by exact AZ rfl rfl Aa Aa Af Af) ?_;refine tq 4 rfl (by exact I1 Ab BoxIn.h Aa Af) ?_;refine td 5 rfl ?_;refine td 8 rfl ?_;refine tq 9 rfl (by exact LC rfl rfl Af) ?_;refine td 12 rfl ?_;refine tq 13 rfl (by exact C3 rfl rfl Af) ?_;refine tq 14 rfl (by exact AZ rfl rfl Aa Aa Af Af) ?_;refine tq 15 rfl (by exact I1 Ab BoxIn.h Aa Af) ?_;refine td 17 rfl ?_;refine td 20 rfl ?_;refine tq 21 rfl (by exact LC rfl rfl Af) ?_;refine Om 6 18 rfl rfl kr ?_ ?_;intro w hst K hK;refine AA (vs:=[.int .i64 7,.int .i64 18]) hst Aa Aa rfl rfl (by simp [Value.cells]) rfl (by omega) (by omega) ?_;clear hst;intro x6 w hst;(try refine nY ?_);(try replace hst:=nH hst);refine Bn hK hst (Ac.Le.refl _) (Suf.cons (Suf.refl _)) ?_;clear hst hK K;(try clear w);(try refine nY ?_);(refine Ba 7 rfl kr rfl (fun S' M' w hS hM hst=>IY w hM hst _ x6 _ [7,18] Aa (by rfl) (by rfl) (by decide) (by decide)) Aa rfl ?_)<;>(try refine nY ?_)
    refine tq 10 rfl (by exact E8 rfl rfl) ?_;refine tq 11 rfl (by exact C7 rfl rfl) ?_;refine tq 16 rfl (by exact C7 rfl rfl) ?_;refine AR 18 rfl kr ?_;intro w hst K hK;refine AA (vs:=[.int .i64 17,.int .i64 19]) hst Aa Aa rfl rfl (by simp [Value.cells]) rfl (by omega) (by omega) ?_;clear hst;intro x18 w hst;(try refine nY ?_);(try replace hst:=nH hst);refine Bn hK hst (Ac.Le.refl _) (Suf.cons (Suf.refl _)) ?_;clear hst hK K;(try clear w);(try refine nY ?_);(refine Ba 19 rfl kr rfl (fun S' M' w hS hM hst=>IY w hM hst _ x18 _ [17,19] Aa (by rfl) (by rfl) (by decide) (by decide)) Aa rfl ?_)<;>(try refine nY ?_)
    refine tq 22 rfl (by exact E8 rfl rfl) ?_;refine tq 23 rfl (by exact C7 rfl rfl) ?_;refine tq 24 rfl (by exact AZ rfl rfl Aa Aa Af Af) ?_;refine AR 25 rfl kr ?_;intro w hst K hK;(refine Oo hst rfl BoxIn.h Aa Ab Af ?_);clear hst;intro w hst;(try refine nY ?_);(try replace hst:=nH hst);refine Bb hK hst ?_;clear hst hK K;(try clear w);(try refine nY ?_);refine AK kr ?_;clear ops;intro w hst;rotate_left;intro w hst K hK;refine AA (vs:=[.int .i64 17,.int .i64 19]) hst Aa Aa rfl rfl (by simp [Value.cells]) rfl (by omega) (by omega) ?_;clear hst;intro x18 w hst;(try refine nY ?_);(try replace hst:=nH hst);refine Bn hK hst (Ac.Le.refl _) (Suf.cons (Suf.refl _)) ?_;clear hst hK K;(try clear w);(try refine nY ?_);refine AR 6 rfl kr ?_;intro w hst K hK;refine AA (vs:=[.int .i64 7,.int .i64 18]) hst Aa Aa rfl rfl (by simp [Value.cells]) rfl (by omega) (by omega) ?_;clear hst;intro x6 w hst;(try refine nY ?_);(try replace hst:=nH hst);refine Bn hK hst (Ac.Le.refl _) (Suf.cons (Suf.refl _)) ?_;clear hst hK K;(try clear w);(try refine nY ?_);(refine Ba 7 rfl kr rfl (fun S' M' w hS hM hst=>IY w hM hst _ x6 _ [7,18] Aa (by rfl) (by rfl) (by decide) (by decide)) Aa rfl ?_)<;>(try refine nY ?_)
    refine tq 10 rfl (by exact E8 rfl rfl) ?_;refine tq 11 rfl (by exact C7 rfl rfl) ?_;refine tq 16 rfl (by exact C7 rfl rfl) ?_;(refine Ba 19 rfl kr rfl (fun S' M' w hS hM hst=>IY w hM hst _ x18 _ [17,19] Aa (by rfl) (by rfl) (by decide) (by decide)) Aa rfl ?_)<;>(try refine nY ?_)
    refine tq 22 rfl (by exact E8 rfl rfl) ?_;refine tq 23 rfl (by exact C7 rfl rfl) ?_;refine tq 24 rfl (by exact AZ rfl rfl Aa Aa Af Af) ?_;refine AR 25 rfl kr ?_;intro w hst K hK;(refine Oo hst rfl BoxIn.h Aa Ab Af ?_);clear hst;intro w hst;(try refine nY ?_);(try replace hst:=nH hst);refine Bb hK hst ?_;clear hst hK K;(try clear w);(try refine nY ?_);refine AK kr ?_;clear ops;intro w hst;rotate_left
    all_goals
     repeat' (first|(apply gK ();go_step)|fail)
     replace hst:=hst.drop.drop;have e15:((i:Int) - 15).toNat=i - 15:=by omega
     have e2:((i:Int) - 2).toNat=i - 2:=by omega
     have e16:((i:Int) - 16).toNat=i - 16:=by omega
     have e7:((i:Int) - 7).toNat=i - 7:=by omega
     rw [e15,e2,e16,e7] at hst;have E:=Lib.hid e15;clear e15 e2 e16 e7;go_roundw
     case rel=>exact ⟨i+1,_,by omega,by go_num,Lib.hid (by rw [EU,← hws.out,L5,if_neg h16];rfl),by rw [List.length_set];omega,hst⟩
     case measure=>simp [intOf];omega
  ·obtain rfl:i=64:=by omega
   rename Nat=>b5
   repeat' (first|(apply gK ();go_step)|(with_reducible refine kL ?_;refine Ag hst (by first|exact Bl Ab BoxIn.h Aa E5|exact Bp Ab Ak Aa Aa rfl) ?_<;>(try refine nY ?_))|(apply sT ();clear hst;intro w hst)|(apply sZ ();clear hst;intro bk w hst)|fail)
   clear hi hlt
   go_loopw [66] (fun v wr=>∃ (i:Nat) (s:S8),i≤64∧v=.int .i64 i∧Hid (s=H0 ws h i)∧St S (.box bk (Il s) 220::.box b5 (cF Cs ws) 228::.box b4 (Il ⟨0,0,0,0,0,0,0,0⟩) 220::.box bx (Il h) 220::M) wr) (fun v _=>64 - (intOf v).toNat)
   case atStart=>exact ⟨0,_,by omega,rfl,Lib.hid rfl,hst⟩
   case round =>
    clear hst;obtain ⟨i,s,hi,rfl,hs,hst⟩:=hrel;by_cases hlt:i < 64
    ·have hkl:i < He.length:=hlt;repeat' (first|(with_reducible refine kX ?_;refine Ag hst (by exact NV Ab rfl Aa Aa Af Af Af) ?_<;>(try refine nY ?_))|(apply gK ();go_step)|fail)
     refine AF hst kr ?_;clear hst;intro ops;(try refine nY ?_);refine tq 0 rfl (by exact AZ rfl rfl Aa Aa Af Af) ?_;refine td 1 rfl ?_;refine tq 2 rfl (by exact AZ rfl rfl Aa Aa Af Af) ?_;refine td 3 rfl ?_;refine tq 7 rfl (by exact AZ rfl rfl Aa Aa Af Af) ?_;refine td 8 rfl ?_;refine tq 9 rfl (by exact AZ rfl rfl Aa Aa Af Af) ?_;refine td 10 rfl ?_;refine tq 11 rfl (by exact H4 rfl rfl) ?_;refine tq 12 rfl (by exact AZ rfl rfl Aa Aa Af Af) ?_;refine td 13 rfl ?_;refine tq 14 rfl (by exact Xe rfl) ?_;refine tq 15 rfl (by exact AZ rfl rfl Aa Aa Af Af) ?_;refine td 16 rfl ?_;refine tq 17 rfl (by exact H4 rfl rfl) ?_;refine tq 18 rfl (by exact E8 rfl rfl) ?_;refine td 20 rfl ?_;refine td 22 rfl ?_;refine tq 23 rfl (by exact AZ rfl rfl Aa Aa Af Af) ?_;refine tq 24 rfl (by exact I1 Ab BoxIn.h Aa Af) ?_;refine AR 4 rfl kr ?_;intro w hst K hK;refine AA (vs:=[.int .i64 6,.int .i64 11,.int .i64 25]) hst Aa Aa rfl rfl (by simp [Value.cells]) rfl (by omega) (by omega) ?_;clear hst;intro x4 w hst;(try refine nY ?_);(try replace hst:=nH hst);refine Bn hK hst (Ac.Le.refl _) (Suf.cons (Suf.refl _)) ?_;clear hst hK K;(try clear w);(try refine nY ?_);(refine Ba 5 rfl kr rfl (fun S' M' w hS hM hst=>IY w hM hst _ x4 _ [6,11,25] Aa (by rfl) (by rfl) (by decide) (by decide)) Aa rfl ?_)<;>(try refine nY ?_)
     refine tq 6 rfl (by exact C7 rfl rfl) ?_;refine tq 19 rfl (by exact C7 rfl rfl) ?_;refine tq 21 rfl (by exact C7 rfl rfl) ?_;refine tq 25 rfl (by exact C7 rfl rfl) ?_;refine td 26 rfl ?_;refine AK kr ?_;clear ops;intro w hst;replace hst:=hst.drop;repeat' (first|(apply gK ();go_step)|fail)
     refine AF hst kr ?_;clear hst;intro ops;(try refine nY ?_);refine tq 0 rfl (by exact AZ rfl rfl Aa Aa Af Af) ?_;refine td 1 rfl ?_;refine tq 4 rfl (by exact AZ rfl rfl Aa Aa Af Af) ?_;refine td 5 rfl ?_;refine tq 6 rfl (by exact AZ rfl rfl Aa Aa Af Af) ?_;refine td 7 rfl ?_;refine tq 8 rfl (by exact H4 rfl rfl) ?_;refine tq 9 rfl (by exact AZ rfl rfl Aa Aa Af Af) ?_;refine td 10 rfl ?_;refine tq 11 rfl (by exact AZ rfl rfl Aa Aa Af Af) ?_;refine td 12 rfl ?_;refine tq 13 rfl (by exact H4 rfl rfl) ?_;refine tq 14 rfl (by exact E8 rfl rfl) ?_;refine tq 15 rfl (by exact AZ rfl rfl Aa Aa Af Af) ?_;refine td 16 rfl ?_;refine tq 17 rfl (by exact AZ rfl rfl Aa Aa Af Af) ?_;refine td 18 rfl ?_;refine tq 19 rfl (by exact H4 rfl rfl) ?_;refine tq 20 rfl (by exact E8 rfl rfl) ?_;refine AR 2 rfl kr ?_;intro w hst K hK;refine AA (vs:=[.int .i64 2,.int .i64 13,.int .i64 22]) hst Aa Aa rfl rfl (by simp [Value.cells]) rfl (by omega) (by omega) ?_;clear hst;intro x2 w hst;(try refine nY ?_);(try replace hst:=nH hst);refine Bn hK hst (Ac.Le.refl _) (Suf.cons (Suf.refl _)) ?_;clear hst hK K;(try clear w);(try refine nY ?_);(refine Ba 3 rfl kr rfl (fun S' M' w hS hM hst=>IY w hM hst _ x2 _ [2,13,22] Aa (by rfl) (by rfl) (by decide) (by decide)) Aa rfl ?_)<;>(try refine nY ?_)
     refine tq 21 rfl (by exact C7 rfl rfl) ?_;refine td 22 rfl ?_;refine AK kr ?_;clear ops;intro w hst;replace hst:=hst.drop;repeat' (first|(with_reducible refine kB ?_;refine Ag hst (by exact C7 rfl rfl) ?_<;>(try refine nY ?_))|(with_reducible refine kU ?_;refine Ag hst (by exact UK Aa Aa Aa rfl rfl (by simp only [List.map_cons,List.map_nil,Ai,AX];rfl) (by simp [Value.cells])) ?_<;>(try refine nY ?_))|(with_reducible refine kI ?_;refine Ag hst (AZ rfl rfl Aa Aa Af Af) ?_<;>(try refine nY ?_))|(apply gK ();go_step)|apply sY ()|(apply sT ();clear hst;intro w hst)|fail)
     go_roundw
     case rel=>exact ⟨i+1,Uw s (He.getD i 0) (ws.getD i 0),by omega,by go_num,Lib.hid (by rw [H0,← hs.out]),hst⟩
     case measure=>simp [intOf];omega
    ·obtain rfl:i=64:=by omega
     repeat' (first|(apply gK ();go_step)|fail)
     have hst:St S (.box bk (cF Cs s.l) 220::.box b5 (cF Cs ws) 228::.box b4 (Il ⟨0,0,0,0,0,0,0,0⟩) 220::.box bx (cF Cs h.l) 220::M) _:=hst;clear hi hlt
     go_loopw [139] (fun v wr=>∃ (i:Nat) (vs:List UInt32),i≤8∧v=.int .i64 i∧Hid (vs=To h.l i s.l)∧(8≤vs.length∧vs.length≤8)∧St S (.box bk (cF Cs vs) 220::.box b5 (cF Cs ws) 228::.box b4 (Il ⟨0,0,0,0,0,0,0,0⟩) 220::.box bx (cF Cs h.l) 220::M) wr) (fun v _=>8 - (intOf v).toNat)
     case atStart=>exact ⟨0,_,by omega,rfl,Lib.hid rfl,⟨Nat.le_refl 8,Nat.le_refl 8⟩,hst⟩
     case round =>
      clear hst;obtain ⟨i,vs,hi,rfl,hvs,hvl,hst⟩:=hrel;by_cases hlt:i < 8
      ·have hhl:i < h.l.length:=hlt;repeat' (first|(apply gK ();go_step)|fail)
       refine AF hst kr ?_;clear hst;intro ops;(try refine nY ?_);refine td 0 rfl ?_;refine tq 1 rfl (by exact AZ rfl rfl Aa Aa Af Af) ?_;refine tq 2 rfl (by exact I1 Ab BoxIn.h Aa Af) ?_;refine td 3 rfl ?_;refine tq 4 rfl (by exact AZ rfl rfl Aa Aa Af Af) ?_;refine tq 5 rfl (by exact I1 Ab BoxIn.h Aa Af) ?_;refine tq 6 rfl (by exact C7 rfl rfl) ?_;refine tq 7 rfl (by exact AZ rfl rfl Aa Aa Af Af) ?_;refine AR 8 rfl kr ?_;intro w hst K hK;(refine Oo hst rfl BoxIn.h Aa Ab Af ?_);clear hst;intro w hst;(try refine nY ?_);(try replace hst:=nH hst);refine Bb hK hst ?_;clear hst hK K;(try clear w);(try refine nY ?_);refine AK kr ?_;clear ops;intro w hst;repeat' (first|(apply gK ();go_step)|fail)
       go_roundw
       case rel=>exact ⟨i+1,_,by omega,by go_num,Lib.hid (by rw [To,← hvs.out]),by rw [List.length_set];omega,hst⟩
       case measure=>simp [intOf];omega
      ·obtain rfl:i=8:=by omega
       have e:cF Cs vs=Il (Ym h blk):=by rw [hvs.out,hs.out,hws.out];rfl
       rw [e] at hst;repeat' (first|(apply gK ();go_step)|(with_reducible refine kL ?_;refine Ag hst (by exact Bl Ab BoxIn.h Aa E5) ?_<;>(try refine nY ?_))|(apply sT ();clear hst;intro w hst)|fail)
       refine FI rfl (AT hst rfl _ BoxIn.h Aa rfl rfl) ?_;(try simp only [AX,List.drop_zero,List.drop_succ_cons,List.take_succ_cons,List.take_zero,As,Ap]);exact ⟨_,rfl,rfl,(by first|exact hst|exact hst.drop|exact hst.drop.drop|exact hst.drop.drop.drop|exact hst.drop.drop.drop.drop|exact hst.drop.drop.drop.drop.drop|exact hst.drop.drop.drop.drop.drop.drop|exact hst.drop.drop.drop.drop.drop.drop.drop|exact hst.drop.drop.drop.drop.drop.drop.drop.drop|exact hst.drop.drop.drop.drop.drop.drop.drop.drop.drop|exact hst.drop.drop.drop.drop.drop.drop.drop.drop.drop.drop|exact hst.drop.drop.drop.drop.drop.drop.drop.drop.drop.drop.drop|exact hst.drop.drop.drop.drop.drop.drop.drop.drop.drop.drop.drop.drop|exact hst.drop.drop.drop.drop.drop.drop.drop.drop.drop.drop.drop.drop.drop)⟩
theorem AC {S:Ac} {M:List Chunk} {w:World} {b:Nat} {c:List Value} {T:TypeId} {α:Type} [Rep α] {x:α} (h:St S (.box b c T::M) w) (hR:Rep.R S c x) (hz:c.length=Rep.z α) :
  ∃ S',S.Le S'∧St S' M w∧Pt S' (.pointer (some ⟨b,0,none⟩)) x:=by
 obtain ⟨h1,h2⟩:=h.freeze_box;refine ⟨_,h1,h2,b,0,c.toArray,T,(0,0),rfl,by simp [Ac.with],?_⟩;have:=Rep.mono h1 hR;rw [← hz]
 simpa using this
abbrev VM (S:Ac) (M:List Chunk) (m:List UInt8) (v:Value) (w:World):Prop :=
 ∃ S' ps pn,S.Le S'∧v=.func (.func 148) #[] #[ps,pn]∧Pt S' ps m∧Pt S' pn (64:Int)∧St S' M w
theorem aQ {S M} (w:World) (hst:St S M w) (vm:Value) (m:List UInt8) (hm:RSl S vm m) :
  Ad Tryz.prog 141 [vm,.int .i64 64] w fun v w'=>VM S M m v w':=by
 unfold Ad;have h1:=hm.oneCell;go_enter Tryz.func141,Tryz.ntmps141;repeat' (first|(apply gK ();go_step)|apply sY ()|(apply sC ();clear hst;intro bx w hst)|fail)
 refine FI rfl (A3 rfl) ?_;(try simp only [AX,List.drop_zero,List.drop_succ_cons,List.take_succ_cons,List.take_zero,As,Ap]);obtain ⟨S1,hS1,hst,hpn⟩:=AC (α:=Int) (x:=(64:Int)) hst (by exact ⟨rfl,by unfold Au;omega⟩) rfl
 change St S1 (.box _ vm.cells.toList _::M) w at hst
 rw [CD h1] at hst;obtain ⟨S2,hS2,hst,hps⟩:=AC (α:=List UInt8) (x:=m) hst (by exact ⟨vm,rfl,hm.mono hS1⟩) rfl;exact ⟨_,rfl,S2,_,_,hS1.trans hS2,rfl,hps,hpn.mono hS2,hst⟩
def KW (m:List UInt8) (k:Nat):List UInt8:=(m.drop (64 * k)).take 64
def aR (S:Ac) (m:List UInt8) (k:Nat) (vs:List Value):Prop:=∃ v,vs=[v]∧RSl S v (KW m k)
theorem Yr {S} (m:List UInt8) (N:Nat) (hN:m.length=64 * N) (hl:m.length≤16777216) (ps pn:Value) (hs:Pt S ps m) (hn:Pt S pn (64:Int)):KY Tryz.prog S 148 [ps,pn] N (aR S m):=by
 intro l MM hY w hst;have hN':m.length≤64 * N∧64 * N≤m.length:=by omega
 clear hN;go_enter Tryz.func148,Tryz.ntmps148;repeat' (first|(apply gK ();go_step)|fail)
 go_loopw [4] (fun v wr=>∃ k,k≤N∧v=.int .i64 ((64 * k:Nat):Int)∧St S (MM k) wr) (fun v _=>m.length - (intOf v).toNat)
 case atStart=>exact ⟨0,Nat.zero_le _,rfl,hst⟩
 case round =>
  clear hst;obtain ⟨k,hk,rfl,hst⟩:=hrel;by_cases hlt:k < N
  ·have h64:((64 * k:Nat):Int) < m.length:=by omega
   have hlen:((m.drop (64 * k)).take (m.length - 64 * k)).length=m.length - 64 * k:=by rw [List.length_take,List.length_drop];omega
   have hmin:min (64:Int) (((m.drop (64 * k)).take (m.length - 64 * k)).length:Nat)=64:=by rw [hlen];omega
   have Hmin:=Lib.hid hmin;clear hmin hlen;repeat' (first|(apply gK ();go_step)|(with_reducible refine kL ?_;refine An hst (Ae Ab Ak Aa) ?_;rintro v ⟨hvl,hv1⟩<;>(try refine nY ?_))|apply sY ()|fail)
   refine AF hst kr ?_;clear hst;intro ops;(try refine nY ?_)
   ((refine Bz 0 rfl kr rfl rfl (fun w hst=>Am Ab Ak Aa) ?_;rintro v ⟨rfl,hI⟩))<;>(try refine nY ?_)
   ((refine Bz 1 rfl kr rfl rfl (fun w hst=>Ae Ab Ak Aa) ?_;rintro v ⟨hvl,hv1⟩))<;>(try refine nY ?_)
   refine td 2 rfl ?_
   ((refine Bz 3 rfl kr rfl rfl (fun w hst=>DF (a:=64 * k) (b:=m.length) Ab hvl Aa Aa (.inr ⟨.i64,by simp [Ai,AX]⟩) (.inl ⟨rfl,rfl⟩) (.inl rfl) (by omega) (Nat.le_refl _) ) ?_;rintro v  hp))<;>(try refine nY ?_)
   refine td 4 rfl ?_;refine tq 5 rfl (by exact UI rfl rfl) ?_;refine td 6 rfl ?_;refine AK kr ?_;clear ops;intro w hst;rw [Hmin.out];repeat' ((apply Z4 ());first|(apply gK ();go_step)|fail)
   refine (wpIn_wide (n:=0)).1 (wpIn_region_lit (No 10 (.inl rfl) ?_ rfl ?_))
   ·rintro ⟨a,w,⟨v,hv⟩,_⟩;cases hv
   ·simp only [List.take_succ_cons,List.take_zero,List.drop_succ_cons,List.drop_zero];repeat' (first|(apply gK ();go_step)|(with_reducible refine kL ?_;refine An hst (Ae Ab Ak Aa) ?_;rintro v ⟨hvl,hv1⟩<;>(try refine nY ?_))|fail)
    refine QR (a:=64 * k) (b:=64 * k+64) Ab hvl Aa Aa (.inr ⟨.i64,by simp [Ai,AX]⟩) (.inr ⟨.i64,by simp [Ai,AX]⟩) (.inr ⟨.i64,64 * k+64,by simp [Ai,AX],Nat.le_refl _,by omega,rfl⟩) (by omega) (by omega) ?_;intro vs hvs;rw [Nat.add_sub_cancel_left] at hvs;refine nY ?_;repeat' (first|(apply gK ();go_step)|fail)
    refine Pu rfl rfl (hY k hlt _ ⟨vs,rfl,hvs⟩ _ hst) ?_;clear hst;intro w hst;refine nY ?_;refine EE (.inl rfl) ?_ rfl ?_
    ·rintro ⟨a,w,⟨v,hv⟩,_⟩;cases hv
    ·repeat' (first|(apply gK ();go_step)|(with_reducible refine kL ?_;refine An hst (Am Ab Ak Aa) ?_;rintro v ⟨rfl,hI⟩<;>(try refine nY ?_))|fail)
     go_roundw
     case rel=>exact ⟨k+1,by omega,by go_num,hst⟩
     case measure=>simp [intOf];omega
  ·obtain rfl:k=N:=by omega
   repeat' (first|(apply gK ();go_step)|(with_reducible refine kL ?_;refine An hst (Ae Ab Ak Aa) ?_;rintro v ⟨hvl,hv1⟩<;>(try refine nY ?_))|apply sY ()|fail)
   go_end0
   exact ⟨⟨_,rfl⟩,hst⟩
end Go.Proofs.YtmmbidoldegemaaGreatDoor
