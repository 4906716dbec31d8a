/- Part 12 of a proof; no conditions. -/
import Derived.Lib.SliceRun
import Derived.Test.YtmmbidoldegemaaGreatDoorZ03
set_option linter.all false
set_option maxRecDepth 8000
set_option maxHeartbeats 8000000
namespace Go.Proofs.YtmmbidoldegemaaGreatDoor
open Go.RowKit Go.Sl
def Tz (x:UInt32) (k:Nat):UInt32:=shl x (32 - k) ||| shr x k
def N3 (x:UInt32) (ns:List Nat):UInt32:=ns.foldl (fun a k=>a ^^^ Tz x k) 0
def LG (b:List UInt8):UInt32:=b.foldl (fun n x=>shl n 8 ||| UInt32.ofNat x.toNat) 0
def MX (blk:List UInt8) (w:List UInt32) (i:Nat):UInt32 :=
 if i < 16 then LG ((blk.drop (4 * i)).take 4)
 else w.getD (i - 16) 0+(N3 (w.getD (i - 15) 0) [7,18] ^^^ shr (w.getD (i - 15) 0) 3)+w.getD (i - 7) 0+(N3 (w.getD (i - 2) 0) [17,19] ^^^ shr (w.getD (i - 2) 0) 10)
def Fq (blk:List UInt8):Nat→List UInt32
 | 0=>List.replicate 64 0
 | n+1=>(Fq blk n).set n (MX blk (Fq blk n) n)
theorem OJ (blk:List UInt8):∀ n,(Fq blk n).length=64
 | 0=>by simp [Fq]
 | n+1=>by rw [Fq,List.length_set,OJ blk n]
structure S8 where
 a:UInt32
 b:UInt32
 c:UInt32
 d:UInt32
 e:UInt32
 f:UInt32
 g:UInt32
 h:UInt32
 deriving DecidableEq
def S8.l (s:S8):List UInt32:=[s.a,s.b,s.c,s.d,s.e,s.f,s.g,s.h]
def fX (s:S8) (k w:UInt32):UInt32:=s.h+N3 s.e [6,11,25]+((s.e &&& s.f) ^^^ ((4294967295 ^^^ s.e) &&& s.g))+k+w
def jj (s:S8):UInt32:=N3 s.a [2,13,22]+(((s.a &&& s.b) ^^^ (s.a &&& s.c)) ^^^ (s.b &&& s.c))
def VC (s:S8) (k w:UInt32):S8:=⟨fX s k w+jj s,s.a,s.b,s.c,s.d+fX s k w,s.e,s.f,s.g⟩
def Il:List UInt32:=[
 0x428a2f98,0x71374491,0xb5c0fbcf,0xe9b5dba5,0x3956c25b,0x59f111f1,0x923f82a4,0xab1c5ed5,
 0xd807aa98,0x12835b01,0x243185be,0x550c7dc3,0x72be5d74,0x80deb1fe,0x9bdc06a7,0xc19bf174,
 0xe49b69c1,0xefbe4786,0x0fc19dc6,0x240ca1cc,0x2de92c6f,0x4a7484aa,0x5cb0a9dc,0x76f988da,
 0x983e5152,0xa831c66d,0xb00327c8,0xbf597fc7,0xc6e00bf3,0xd5a79147,0x06ca6351,0x14292967,
 0x27b70a85,0x2e1b2138,0x4d2c6dfc,0x53380d13,0x650a7354,0x766a0abb,0x81c2c92e,0x92722c85,
 0xa2bfe8a1,0xa81a664b,0xc24b8b70,0xc76c51a3,0xd192e819,0xd6990624,0xf40e3585,0x106aa070,
 0x19a4c116,0x1e376c08,0x2748774c,0x34b0bcb5,0x391c0cb3,0x4ed8aa4a,0x5b9cca4f,0x682e6ff3,
 0x748f82ee,0x78a5636f,0x84c87814,0x8cc70208,0x90befffa,0xa4506ceb,0xbef9a3f7,0xc67178f2]
def Gf:S8:=⟨0x6a09e667,0xbb67ae85,0x3c6ef372,0xa54ff53a,0x510e527f,0x9b05688c,0x1f83d9ab,0x5be0cd19⟩
def IE (w:List UInt32) (s:S8):Nat→S8
 | 0=>s
 | n+1=>VC (IE w s n) (Il.getD n 0) (w.getD n 0)
def g7 (s t:S8):S8:=⟨s.a+t.a,s.b+t.b,s.c+t.c,s.d+t.d,s.e+t.e,s.f+t.f,s.g+t.g,s.h+t.h⟩
def ZH (h:S8) (blk:List UInt8):S8:=g7 (IE (Fq blk 64) h 64) h
def be (n:Nat):Nat→List UInt8
 | 0=>[]
 | m+1=>UInt8.ofNat (n / 256 ^ m)::be n m
theorem NM (n:Nat):∀ m,(be n m).length=m
 | 0=>rfl
 | m+1=>by rw [be,List.length_cons,NM n m]
def Jy (n:Nat):Nat:=(119 - n % 64) % 64
def FL (b:List UInt8):List UInt8:=b++[128]++List.replicate (Jy b.length) 0++be (8 * b.length) 8
theorem Sa (b):(FL b).length=b.length+9+Jy b.length:=by
 simp [FL,NM];omega
theorem cr (b):(FL b).length % 64=0:=by
 rw [Sa,Jy];omega
def IW (m:List UInt8):Nat→S8
 | 0=>Gf
 | n+1=>ZH (IW m n) ((m.drop (64 * n)).take 64)
def P7 (s:S8):List UInt8:=s.l.flatMap fun x=>be x.toNat 4
def IP (b:List UInt8):List UInt8:=P7 (IW (FL b) ((FL b).length / 64))
theorem YQ (s):(P7 s).length=32:=by simp [P7,S8.l,NM]
theorem Mz (b):(IP b).length=32:=YQ _
end Go.Proofs.YtmmbidoldegemaaGreatDoor
namespace Go.Proofs.YtmmbidoldegemaaGreatDoor
open Go.RowKit Go.Sl Go.Proofs.Tryz
theorem Wc (b:List UInt8) (i h):LG (b.take (i+1))=shl (LG (b.take i)) 8 ||| UInt32.ofNat b[i].toNat:=by
 rw [List.take_succ_eq_append_getElem h,LG,List.foldl_append];rfl
theorem fT {S M} (w) (V:St S M w) (vb b) (hb:RSl S vb b) (hm:b.length≤1048576):
  Ac prog 146 [vb] w fun v w'=>v=.int .u32 ((LG b).toNat:Int)∧St S M w':=by
 unfold Ac;go_enter func146,ntmps146;repeat' (first|(apply O ();go_step)|apply sY ()|fail)
 go_loopw [3,8] (fun u v wr=>∃ (i:Nat) (x:UInt32),i≤b.length∧v=.int .i64 i∧u=.int .u32 (x.toNat:Int)∧Hid (x=LG (b.take i))∧St S M wr) (fun _ v _=>b.length - (intOf v).toNat)
 case atStart=>exact ⟨0,0,Nat.zero_le _,rfl,rfl,Lib.hid rfl,V⟩
 case round =>
  clear V;obtain ⟨i,x,hi,rfl,rfl,hx,V⟩:=hrel;by_cases hlt:i < b.length
  ·repeat' (first|(apply tB ();refine Ag V (by first|exact N6 rfl rfl|exact Mt rfl rfl Af) ?_<;>apply nZ ())|(with_reducible refine Go.Sl.kV ?_;refine Ag V (by exact TE rfl Y Y) ?_<;>apply nZ ())|(apply O ();go_step)|(apply tL ();refine Ag V (by exact I8 X Ak Y) ?_<;>apply nZ ())|(apply sJ ();intro v L)|fail)
   go_roundw
   case rel=>exact ⟨i+1,_,by omega,by go_num,rfl,Lib.hid (by rw [Wc b i hlt,hx.out]),V⟩
   case measure=>simp [intOf];omega
  ·repeat' (first|(apply O ();go_step)|fail)
   go_ret;exact ⟨_,rfl,by rw [hx.out,List.take_of_length_le (by omega)];rfl,V⟩
theorem Yo:∀ n < 32,1≤n→bits .and .u64 (IntKind.u64.wrap (-((n:Nat):Int))) 31=((32 - n:Nat):Int):=by decide +kernel
theorem fa {S M} (w) (V:St S M w) (x) (n:Nat) (h0:1≤n) (h1:n < 32):
  Ac prog 149 [.int .u32 (x.toNat:Int),.int .i64 (-(n:Int))] w fun v w'=>v=.int .u32 ((Tz x n).toNat:Int)∧St S M w':=by
 unfold Ac;have ha:=Yo n h1 h0;go_enter func149,ntmps149;repeat' (first|(apply tB ();refine Ag V (by first|exact N6 rfl rfl|exact Mt rfl rfl Af|exact IF rfl rfl Af) ?_<;>apply nZ ())|(apply O ();go_step)|fail)
 go_ret
 exact ⟨_,rfl,by
  rw [show ((32:Int) - ((32 - n:Nat):Int)).toNat=n by omega];rfl,V⟩
theorem bD {S M} (w) (V:St S M w) (x n) (h0:1≤n) (h1:n < 32):
  Ac prog 149 [.int .u32 (x.toNat:Int),.int .i64 (-n)] w fun v w'=>v=.int .u32 ((Tz x n.toNat).toNat:Int)∧St S M w':=by
 obtain ⟨m,rfl⟩:∃ m:Nat,n=m:=⟨n.toNat,by omega⟩
 exact fa w V x m (by omega) (by omega)
def Ly (x:UInt32) (ns:List Int):UInt32:=N3 x (ns.map Int.toNat)
theorem VD (x) (ns:List Int) (i h):Ly x (ns.take (i+1))=Ly x (ns.take i) ^^^ Tz x ns[i].toNat:=by
 rw [List.take_succ_eq_append_getElem h,Ly,N3,List.map_append,List.foldl_append];rfl
theorem eZ {S M} (w) (V:St S M w) (x vn c ns) {k m} (hs:SlIn M vn k 3 1 m c) (hc:c=cF Ba ns) (hm:m=ns.length) (hn:∀ n∈ns,1≤n∧n < 32) (hl:ns.length≤10):
  Ac prog 147 [.int .u32 (x.toNat:Int),vn] w fun v w'=>v=.int .u32 ((Ly x ns).toNat:Int)∧St S M w':=by
 unfold Ac;subst hc;subst hm;go_enter func147,ntmps147;repeat' (first|(apply O ();go_step)|apply sY ()|fail)
 go_loopw [5,10] (fun u v wr=>∃ (i:Nat) (y:UInt32),i≤ns.length∧v=.int .i64 i∧u=.int .u32 (y.toNat:Int)∧Hid (y=Ly x (ns.take i))∧St S M wr) (fun _ v _=>ns.length - (intOf v).toNat)
 case atStart=>exact ⟨0,0,Nat.zero_le _,rfl,rfl,Lib.hid rfl,V⟩
 case round =>
  clear V;obtain ⟨i,y,hi,rfl,rfl,hy,V⟩:=hrel;by_cases hlt:i < ns.length
  ·obtain ⟨hb1,hb2⟩:=hn ns[i] (List.getElem_mem hlt);repeat' (first|(apply tB ();refine Ag V (by exact Fx rfl rfl) ?_<;>apply nZ ())|(apply tI ();(refine An V (Ao V X SlIn.h rfl Y Y Af Af) ?_);rintro v L;(try simp only [Int.toNat_natCast,Int.toNat_natCast_add_one,Int.reduceToNat] at L)<;>apply nZ ())|(apply O ();go_step)|(apply kc ();refine sc (bD _ V x ns[i] hb1 hb2) ?_;clear V;rintro v w ⟨rfl,V⟩)|(apply tL ();refine Ag V (by exact KV X Ak SlIn.h Y Af) ?_<;>apply nZ ())|fail)
   go_roundw
   case rel=>exact ⟨i+1,_,by omega,by go_num,rfl,Lib.hid (by rw [VD x ns i hlt,hy.out]),V⟩
   case measure=>simp [intOf];omega
  ·repeat' (first|(apply O ();go_step)|fail)
   go_ret;exact ⟨_,rfl,by rw [hy.out,List.take_of_length_le (by omega)];rfl,V⟩
theorem eg (n m):be n (m+1)=UInt8.ofNat (n / 256 ^ m)::be n m:=rfl
theorem X9 (n i:Nat):((n:Int) / 2 ^ (8 * i) % 256)=((UInt8.ofNat (n / 256 ^ i)).toNat:Int):=by
 have e2:((2:Int) ^ (8 * i))=((256 ^ i:Nat):Int):=by
  rw [show (256:Nat)=2 ^ 8 from rfl,← Nat.pow_mul]
  push_cast
  rfl
 rw [e2,← Int.natCast_ediv,UInt8.toNat_ofNat'];rfl
theorem RT {S M} (w vb b n) (V:St S (.sl vb 5 1 b.length (u8s b)::M) w) (Nqq many:Nat) (hN:Nqq < 18446744073709551616) (hk:many≤8) (hn:n+many≤16777216) (hb:b.length≤n):
  Ac prog 139 [vb,.int .u64 (Nqq:Int),.int .i64 (many:Int)] w fun v w'=>St S (.sl v 5 1 (b++be Nqq many).length (u8s (b++be Nqq many))::M) w':=by
 unfold Ac;have h1:=Go.Sl.AY V;go_enter func139,ntmps139;repeat' (first|(apply O ();go_step)|fail)
 go_loopw [0,7] (fun va v wr=>∃ (j:Nat) (k:Int) (c:List UInt8),j≤many∧v=.int .i64 k∧k=(j:Int) - 1∧Hid (c++be Nqq j=b++be Nqq many)∧c.length+j≤n+many∧va.oneCell'=true∧St S (.sl va 5 1 c.length (u8s c)::M) wr) (fun _ v _=>(intOf v+1).toNat)
 case atStart=>exact ⟨many,_,b,by omega,rfl,by omega,Lib.hid rfl,by omega,h1,V⟩
 case round =>
  clear V;obtain ⟨j,k,c,hj,rfl,hk',hc,hcl,h2,V⟩:=hrel;rcases Nat.eq_zero_or_pos j with rfl|hj0
  ·obtain rfl:k = -1:=by omega
   clear hk';repeat' (first|(apply O ();go_step)|fail)
   go_ret;have e:c=b++be Nqq many:=by rw [← hc.out];simp [be]
   subst e;exact ⟨_,rfl,V⟩
  ·obtain ⟨i,rfl⟩:∃ i,j=i+1:=⟨j - 1,by omega⟩
   obtain rfl:k=(i:Int):=by omega
   clear hk';repeat' (first|(apply O ();go_step)|fail)
   refine Ay (vs:=[.int .u8 ((Nqq:Int) / 2 ^ (8 * i) % 256)]) V Y Y rfl rfl (by simp [Value.cells]) rfl (by omega) (by omega) ?_;clear V;intro u w V;refine nY ?_;refine AF (j:=0) V X X SlIn.h rfl Y Y Y (by simp [Value.cells,Value.oneCell']) (by omega) (by omega) (by decide) ?_;clear V;intro v' w V;refine nY ?_;(try replace V:=nH V);replace V:=V.drop;repeat' (first|(apply O ();go_step)|fail)
   have h3:=Go.Sl.AY V;go_roundw
   case rel=>exact ⟨i,_,c++[UInt8.ofNat (Nqq / 256 ^ i)],by omega,rfl,by omega,Lib.hid (by rw [← hc.out,eg];simp),by simp;omega,h3,by rw [List.length_append,Iy,← X9];exact V⟩
   case measure=>simp [intOf]
instance l6 {n:Nat}:FlatC (H7 UInt32 n) (fun a=>cF CH a.l):=⟨fun {S cs x} h=>by
 obtain ⟨_,h1,h2⟩:=h;have hz:Z.z UInt32=1:=rfl;rw [hz,Nat.mul_one] at h1;apply List.ext_getElem?;intro j;rcases Nat.lt_or_ge j x.l.length with hj|hj
 ·have e1:=h2 j _ (List.getElem?_eq_getElem hj);rw [hz,Nat.mul_one] at e1;have e2:=Im x.l j hj
  have e3:(cs.drop j).take 1=((cF CH x.l).drop j).take 1:=by
   rw [e2,List.getD_eq_getElem?_getD,List.getElem?_eq_getElem hj];exact e1
  have e4:=congrArg (·[0]?) e3
  simpa [List.getElem?_take,List.getElem?_drop] using e4
 ·rw [List.getElem?_eq_none (by omega),List.getElem?_eq_none (by rw [Ks];omega)]⟩
abbrev I6 (s:S8):List Value:=[.int .u32 (s.a.toNat:Int),.int .u32 (s.b.toNat:Int),.int .u32 (s.c.toNat:Int),.int .u32 (s.d.toNat:Int),.int .u32 (s.e.toNat:Int),.int .u32 (s.f.toNat:Int),.int .u32 (s.g.toNat:Int),.int .u32 (s.h.toNat:Int)]
abbrev jd (s:S8):Value:=.agg (I6 s).toArray
theorem JL {S' M M'} (w) (hM:Suf M M') (V:St S' M' w) (x vn c ns) {k m} (hs:SlIn M vn k 3 1 m c) (hc:c=cF Ba ns) (hm:m=ns.length) (hn:∀ n∈ns,1≤n∧n < 32) (hl:ns.length≤10):
  Ac prog 147 [.int .u32 (x.toNat:Int),vn] w fun v w'=>v=.int .u32 ((Ly x ns).toNat:Int)∧St S' M' w' :=
 let ⟨_,i⟩:=hM.slIn hs
 eZ w V x vn c ns i hc hm hn hl
def UC (h:List UInt32):Nat→List UInt32→List UInt32
 | 0,v=>v
 | n+1,v=>(UC h n v).set n ((UC h n v).getD n 0+h.getD n 0)
set_option maxRecDepth 100000 in
theorem ey (blk):cF CH (Fq blk 0)=List.replicate 64 (.int .u32 0):=rfl
set_option maxRecDepth 100000 in
theorem Uv {S M} (w) (V:St S M w) (G:Pt S (.pointer (some ⟨1,0,none⟩)) (⟨Il⟩:H7 UInt32 64)) (h vb blk) (hb:RSl S vb blk) (hl:blk.length=64):
  Ac prog 140 [jd h,vb] w fun v w'=>v=jd (ZH h blk)∧St S M w':=by
 unfold Ac;have h64:64≤blk.length∧blk.length≤64:=by omega
 clear hl;go_enter func140,ntmps140;repeat' (first|(apply O ();go_step)|(apply sC ();clear V;intro bx w V)|(apply sZ ();clear V;intro bk w V)|fail)
 rename_i b4 _ _ _;have V:St S (.box bk (cF CH (Fq blk 0)) 228::.box b4 (I6 ⟨0,0,0,0,0,0,0,0⟩) 220::.box bx (I6 h) 220::M) w:=by rw [ey];exact V
 go_loopw [15] (fun v wr=>∃ (i:Nat) (ws:List UInt32),i≤64∧v=.int .i64 i∧Hid (ws=Fq blk i)∧(64≤ws.length∧ws.length≤64)∧St S (.box bk (cF CH ws) 228::.box b4 (I6 ⟨0,0,0,0,0,0,0,0⟩) 220::.box bx (I6 h) 220::M) wr) (fun v _=>64 - (intOf v).toNat)
 case atStart=>exact ⟨0,_,by omega,rfl,Lib.hid rfl,by rw [OJ];omega,V⟩
 case round =>
  clear V;obtain ⟨i,ws,hi,rfl,hws,hwl,V⟩:=hrel;by_cases hlt:i < 64
  ·by_cases h16:i < 16
   ·repeat' (first|(apply O ();go_step)|fail)
    refine CG (a:=4 * i) (b:=4 * i+4) X hb Y Y (.inr ⟨.i64,by simp [Ai,AV]⟩) (.inr ⟨.i64,by simp [Ai,AV]⟩) (.inl rfl) (by omega) (by omega) ?_;intro vs hvs;refine nY ?_;repeat' (first|(apply tI ();refine Ag V (A6 rfl rfl Y Y Af Af) ?_<;>apply nZ ())|(apply tS ();refine Po V rfl N.h Y X Af ?_;clear V;intro w V<;>apply nZ ()<;>(try replace V:=nH V))|(apply O ();go_step)|(apply kc ();refine sc (fT _ V vs _ hvs (by simp;omega)) ?_;clear V;rintro v w ⟨rfl,V⟩)|fail)
    go_roundw
    case rel=>exact ⟨i+1,_,by omega,by go_num,Lib.hid (by rw [Fq,← hws.out,MX,if_pos h16,Nat.add_sub_cancel_left]),by rw [List.length_set];omega,V⟩
    case measure=>simp [intOf];omega
   ·repeat' (first|(apply O ();go_step)|fail)
    refine Fv V kr kr ?_
    repeat (((first|(with_reducible refine Sl.kq_load ?_;(refine CJ (by exact JO X N.h Y Af) ?_))|(with_reducible refine Sl.kq_index ?_;(refine CJ (A6 rfl rfl Y Y Af Af) ?_))|(refine Sl.kq_plain rfl ?_;(refine CJ (by first|exact Dn X|exact DY rfl rfl Af) ?_)))<;>apply nZ ()))
    refine G5 ?_;clear V;intro w V;repeat' (first|(apply O ();go_step)|fail)
    refine AD V kr ?_;clear V;intro ops;apply nZ ();refine td 0 rfl ?_;refine td 1 rfl ?_;refine tq 2 rfl (by exact DY rfl rfl Af) ?_;refine tq 3 rfl (by exact A6 rfl rfl Y Y Af Af) ?_;refine tq 4 rfl (by exact JO X N.h Y Af) ?_;refine td 5 rfl ?_;refine td 8 rfl ?_;refine tq 9 rfl (by exact IF rfl rfl Af) ?_;refine td 12 rfl ?_;refine tq 13 rfl (by exact DY rfl rfl Af) ?_;refine tq 14 rfl (by exact A6 rfl rfl Y Y Af Af) ?_;refine tq 15 rfl (by exact JO X N.h Y Af) ?_;refine td 17 rfl ?_;refine td 20 rfl ?_;refine tq 21 rfl (by exact IF rfl rfl Af) ?_;refine Lv 6 18 rfl rfl kr ?_ ?_;intro w V K G;refine Ay (vs:=[.int .i64 7,.int .i64 18]) V Y Y rfl rfl (by simp [Value.cells]) rfl (by omega) (by omega) ?_;clear V;intro x6 w V;apply nZ ();(try replace V:=nH V);refine Bg G V (Ad.Le.refl _) (Suf.cons (Suf.refl _)) ?_;clear V G K;(try clear w);apply nZ ();(refine AQ 7 rfl kr rfl (fun S' M' w hS hM V=>JL w hM V _ x6 _ [7,18] Y (by rfl) (by rfl) (by decide) (by decide)) Y rfl ?_)<;>apply nZ ()
    refine tq 10 rfl (by exact Fx rfl rfl) ?_;refine tq 11 rfl (by exact Dp rfl rfl) ?_;refine tq 16 rfl (by exact Dp rfl rfl) ?_;refine AP 18 rfl kr ?_;intro w V K G;refine Ay (vs:=[.int .i64 17,.int .i64 19]) V Y Y rfl rfl (by simp [Value.cells]) rfl (by omega) (by omega) ?_;clear V;intro x18 w V;apply nZ ();(try replace V:=nH V);refine Bg G V (Ad.Le.refl _) (Suf.cons (Suf.refl _)) ?_;clear V G K;(try clear w);apply nZ ();(refine AQ 19 rfl kr rfl (fun S' M' w hS hM V=>JL w hM V _ x18 _ [17,19] Y (by rfl) (by rfl) (by decide) (by decide)) Y rfl ?_)<;>apply nZ ()
    refine tq 22 rfl (by exact Fx rfl rfl) ?_;refine tq 23 rfl (by exact Dp rfl rfl) ?_;refine tq 24 rfl (by exact A6 rfl rfl Y Y Af Af) ?_;refine AP 25 rfl kr ?_;intro w V K G;(refine Po V rfl N.h Y X Af ?_);clear V;intro w V;apply nZ ();(try replace V:=nH V);refine Bb G V ?_;clear V G K;(try clear w);apply nZ ();refine AJ kr ?_;clear ops;intro w V;rotate_left;intro w V K G;refine Ay (vs:=[.int .i64 17,.int .i64 19]) V Y Y rfl rfl (by simp [Value.cells]) rfl (by omega) (by omega) ?_;clear V;intro x18 w V;apply nZ ();(try replace V:=nH V);refine Bg G V (Ad.Le.refl _) (Suf.cons (Suf.refl _)) ?_;clear V G K;(try clear w);apply nZ ();refine AP 6 rfl kr ?_;intro w V K G;refine Ay (vs:=[.int .i64 7,.int .i64 18]) V Y Y rfl rfl (by simp [Value.cells]) rfl (by omega) (by omega) ?_;clear V;intro x6 w V;apply nZ ();(try replace V:=nH V);refine Bg G V (Ad.Le.refl _) (Suf.cons (Suf.refl _)) ?_;clear V G K;(try clear w);apply nZ ();(refine AQ 7 rfl kr rfl (fun S' M' w hS hM V=>JL w hM V _ x6 _ [7,18] Y (by rfl) (by rfl) (by decide) (by decide)) Y rfl ?_)<;>apply nZ ()
    refine tq 10 rfl (by exact Fx rfl rfl) ?_;refine tq 11 rfl (by exact Dp rfl rfl) ?_;refine tq 16 rfl (by exact Dp rfl rfl) ?_;(refine AQ 19 rfl kr rfl (fun S' M' w hS hM V=>JL w hM V _ x18 _ [17,19] Y (by rfl) (by rfl) (by decide) (by decide)) Y rfl ?_)<;>apply nZ ()
    refine tq 22 rfl (by exact Fx rfl rfl) ?_;refine tq 23 rfl (by exact Dp rfl rfl) ?_;refine tq 24 rfl (by exact A6 rfl rfl Y Y Af Af) ?_;refine AP 25 rfl kr ?_;intro w V K G;(refine Po V rfl N.h Y X Af ?_);clear V;intro w V;apply nZ ();(try replace V:=nH V);refine Bb G V ?_;clear V G K;(try clear w);apply nZ ();refine AJ kr ?_;clear ops;intro w V;rotate_left
    all_goals
     repeat' (first|(apply O ();go_step)|fail)
     replace V:=V.drop.drop;have e15:((i:Int) - 15).toNat=i - 15:=by omega
     have e2:((i:Int) - 2).toNat=i - 2:=by omega
     have e16:((i:Int) - 16).toNat=i - 16:=by omega
     have e7:((i:Int) - 7).toNat=i - 7:=by omega
     rw [e15,e2,e16,e7] at V;have E:=Lib.hid e15;clear e15 e2 e16 e7;go_roundw
     case rel=>exact ⟨i+1,_,by omega,by go_num,Lib.hid (by rw [Fq,← hws.out,MX,if_neg h16];rfl),by rw [List.length_set];omega,V⟩
     case measure=>simp [intOf];omega
  ·obtain rfl:i=64:=by omega
   rename Nat=>b5
   repeat' (first|(apply O ();go_step)|(apply tL ();refine Ag V (by first|exact BB X N.h Y FS|exact BW X Ak Y Y rfl) ?_<;>apply nZ ())|(apply sT ();clear V;intro w V)|(apply sZ ();clear V;intro bk w V)|fail)
   clear hi hlt
   go_loopw [66] (fun v wr=>∃ (i:Nat) (s:S8),i≤64∧v=.int .i64 i∧Hid (s=IE ws h i)∧St S (.box bk (I6 s) 220::.box b5 (cF CH ws) 228::.box b4 (I6 ⟨0,0,0,0,0,0,0,0⟩) 220::.box bx (I6 h) 220::M) wr) (fun v _=>64 - (intOf v).toNat)
   case atStart=>exact ⟨0,_,by omega,rfl,Lib.hid rfl,V⟩
   case round =>
    clear V;obtain ⟨i,s,hi,rfl,hs,V⟩:=hrel;by_cases hlt:i < 64
    ·have hkl:i < Il.length:=hlt;repeat' (first|(apply tX ();refine Ag V (by exact OU X rfl Y Y Af Af Af) ?_<;>apply nZ ())|(apply O ();go_step)|fail)
     refine AD V kr ?_;clear V;intro ops;apply nZ ();refine tq 0 rfl (by exact A6 rfl rfl Y Y Af Af) ?_;refine td 1 rfl ?_;refine tq 2 rfl (by exact A6 rfl rfl Y Y Af Af) ?_;refine td 3 rfl ?_;refine tq 7 rfl (by exact A6 rfl rfl Y Y Af Af) ?_;refine td 8 rfl ?_;refine tq 9 rfl (by exact A6 rfl rfl Y Y Af Af) ?_;refine td 10 rfl ?_;refine tq 11 rfl (by exact IG rfl rfl) ?_;refine tq 12 rfl (by exact A6 rfl rfl Y Y Af Af) ?_;refine td 13 rfl ?_;refine tq 14 rfl (by exact YB rfl) ?_;refine tq 15 rfl (by exact A6 rfl rfl Y Y Af Af) ?_;refine td 16 rfl ?_;refine tq 17 rfl (by exact IG rfl rfl) ?_;refine tq 18 rfl (by exact Fx rfl rfl) ?_;refine td 20 rfl ?_;refine td 22 rfl ?_;refine tq 23 rfl (by exact A6 rfl rfl Y Y Af Af) ?_;refine tq 24 rfl (by exact JO X N.h Y Af) ?_;refine AP 4 rfl kr ?_;intro w V K G;refine Ay (vs:=[.int .i64 6,.int .i64 11,.int .i64 25]) V Y Y rfl rfl (by simp [Value.cells]) rfl (by omega) (by omega) ?_;clear V;intro x4 w V;apply nZ ();(try replace V:=nH V);refine Bg G V (Ad.Le.refl _) (Suf.cons (Suf.refl _)) ?_;clear V G K;(try clear w);apply nZ ();(refine AQ 5 rfl kr rfl (fun S' M' w hS hM V=>JL w hM V _ x4 _ [6,11,25] Y (by rfl) (by rfl) (by decide) (by decide)) Y rfl ?_)<;>apply nZ ()
     refine tq 6 rfl (by exact Dp rfl rfl) ?_;refine tq 19 rfl (by exact Dp rfl rfl) ?_;refine tq 21 rfl (by exact Dp rfl rfl) ?_;refine tq 25 rfl (by exact Dp rfl rfl) ?_;refine td 26 rfl ?_;refine AJ kr ?_;clear ops;intro w V;replace V:=V.drop;repeat' (first|(apply O ();go_step)|fail)
     refine AD V kr ?_;clear V;intro ops;apply nZ ();refine tq 0 rfl (by exact A6 rfl rfl Y Y Af Af) ?_;refine td 1 rfl ?_;refine tq 4 rfl (by exact A6 rfl rfl Y Y Af Af) ?_;refine td 5 rfl ?_;refine tq 6 rfl (by exact A6 rfl rfl Y Y Af Af) ?_;refine td 7 rfl ?_;refine tq 8 rfl (by exact IG rfl rfl) ?_;refine tq 9 rfl (by exact A6 rfl rfl Y Y Af Af) ?_;refine td 10 rfl ?_;refine tq 11 rfl (by exact A6 rfl rfl Y Y Af Af) ?_;refine td 12 rfl ?_;refine tq 13 rfl (by exact IG rfl rfl) ?_;refine tq 14 rfl (by exact Fx rfl rfl) ?_;refine tq 15 rfl (by exact A6 rfl rfl Y Y Af Af) ?_;refine td 16 rfl ?_;refine tq 17 rfl (by exact A6 rfl rfl Y Y Af Af) ?_;refine td 18 rfl ?_;refine tq 19 rfl (by exact IG rfl rfl) ?_;refine tq 20 rfl (by exact Fx rfl rfl) ?_;refine AP 2 rfl kr ?_;intro w V K G;refine Ay (vs:=[.int .i64 2,.int .i64 13,.int .i64 22]) V Y Y rfl rfl (by simp [Value.cells]) rfl (by omega) (by omega) ?_;clear V;intro x2 w V;apply nZ ();(try replace V:=nH V);refine Bg G V (Ad.Le.refl _) (Suf.cons (Suf.refl _)) ?_;clear V G K;(try clear w);apply nZ ();(refine AQ 3 rfl kr rfl (fun S' M' w hS hM V=>JL w hM V _ x2 _ [2,13,22] Y (by rfl) (by rfl) (by decide) (by decide)) Y rfl ?_)<;>apply nZ ()
     refine tq 21 rfl (by exact Dp rfl rfl) ?_;refine td 22 rfl ?_;refine AJ kr ?_;clear ops;intro w V;replace V:=V.drop;repeat' (first|(apply tB ();refine Ag V (by exact Dp rfl rfl) ?_<;>apply nZ ())|(apply tU ();refine Ag V (by exact OV Y Y Y rfl rfl (by simp only [List.map_cons,List.map_nil,Ai,AV];rfl) (by simp [Value.cells])) ?_<;>apply nZ ())|(apply tI ();refine Ag V (A6 rfl rfl Y Y Af Af) ?_<;>apply nZ ())|(apply O ();go_step)|apply sY ()|(apply sT ();clear V;intro w V)|fail)
     go_roundw
     case rel=>exact ⟨i+1,VC s (Il.getD i 0) (ws.getD i 0),by omega,by go_num,Lib.hid (by rw [IE,← hs.out]),V⟩
     case measure=>simp [intOf];omega
    ·obtain rfl:i=64:=by omega
     repeat' (first|(apply O ();go_step)|fail)
     have V:St S (.box bk (cF CH s.l) 220::.box b5 (cF CH ws) 228::.box b4 (I6 ⟨0,0,0,0,0,0,0,0⟩) 220::.box bx (cF CH h.l) 220::M) _:=V;clear hi hlt
     go_loopw [139] (fun v wr=>∃ (i:Nat) (vs:List UInt32),i≤8∧v=.int .i64 i∧Hid (vs=UC h.l i s.l)∧(8≤vs.length∧vs.length≤8)∧St S (.box bk (cF CH vs) 220::.box b5 (cF CH ws) 228::.box b4 (I6 ⟨0,0,0,0,0,0,0,0⟩) 220::.box bx (cF CH h.l) 220::M) wr) (fun v _=>8 - (intOf v).toNat)
     case atStart=>exact ⟨0,_,by omega,rfl,Lib.hid rfl,⟨Nat.le_refl 8,Nat.le_refl 8⟩,V⟩
     case round =>
      clear V;obtain ⟨i,vs,hi,rfl,hvs,hvl,V⟩:=hrel;by_cases hlt:i < 8
      ·have hhl:i < h.l.length:=hlt;repeat' (first|(apply O ();go_step)|fail)
       refine AD V kr ?_;clear V;intro ops;apply nZ ();refine td 0 rfl ?_;refine tq 1 rfl (by exact A6 rfl rfl Y Y Af Af) ?_;refine tq 2 rfl (by exact JO X N.h Y Af) ?_;refine td 3 rfl ?_;refine tq 4 rfl (by exact A6 rfl rfl Y Y Af Af) ?_;refine tq 5 rfl (by exact JO X N.h Y Af) ?_;refine tq 6 rfl (by exact Dp rfl rfl) ?_;refine tq 7 rfl (by exact A6 rfl rfl Y Y Af Af) ?_;refine AP 8 rfl kr ?_;intro w V K G;(refine Po V rfl N.h Y X Af ?_);clear V;intro w V;apply nZ ();(try replace V:=nH V);refine Bb G V ?_;clear V G K;(try clear w);apply nZ ();refine AJ kr ?_;clear ops;intro w V;repeat' (first|(apply O ();go_step)|fail)
       go_roundw
       case rel=>exact ⟨i+1,_,by omega,by go_num,Lib.hid (by rw [UC,← hvs.out]),by rw [List.length_set];omega,V⟩
       case measure=>simp [intOf];omega
      ·obtain rfl:i=8:=by omega
       have e:cF CH vs=I6 (ZH h blk):=by rw [hvs.out,hs.out,hws.out];rfl
       rw [e] at V;repeat' (first|(apply O ();go_step)|(apply tL ();refine Ag V (by exact BB X N.h Y FS) ?_<;>apply nZ ())|(apply sT ();clear V;intro w V)|fail)
       refine GP rfl (AZ V rfl _ N.h Y rfl rfl) ?_;(try simp only [AV,List.drop_zero,List.drop_succ_cons,List.take_succ_cons,List.take_zero,AB,Ap]);exact ⟨_,rfl,rfl,(by first|exact V|exact V.drop|exact V.drop.drop|exact V.drop.drop.drop|exact V.drop.drop.drop.drop|exact V.drop.drop.drop.drop.drop|exact V.drop.drop.drop.drop.drop.drop|exact V.drop.drop.drop.drop.drop.drop.drop|exact V.drop.drop.drop.drop.drop.drop.drop.drop|exact V.drop.drop.drop.drop.drop.drop.drop.drop.drop|exact V.drop.drop.drop.drop.drop.drop.drop.drop.drop.drop|exact V.drop.drop.drop.drop.drop.drop.drop.drop.drop.drop.drop|exact V.drop.drop.drop.drop.drop.drop.drop.drop.drop.drop.drop.drop|exact V.drop.drop.drop.drop.drop.drop.drop.drop.drop.drop.drop.drop.drop)⟩
theorem AC {S M w b c T} {α:Type} [Z α] {x:α} (h:St S (.box b c T::M) w) (hR:Z.R S c x) (hz:c.length=Z.z α):
  ∃ S',S.Le S'∧St S' M w∧Pt S' (.pointer (some ⟨b,0,none⟩)) x:=by
 obtain ⟨h1,h2⟩:=h.freeze_box;refine ⟨_,h1,h2,b,0,c.toArray,T,(0,0),rfl,by simp [Ad.with],?_⟩;have:=Z.mono h1 hR;rw [← hz]
 simpa using this
abbrev WT (S:Ad) (M:List J) (m:List UInt8) (v:Value) (w:World):Prop :=
 ∃ S' ps pn,S.Le S'∧v=.func (.func 148) #[] #[ps,pn]∧Pt S' ps m∧Pt S' pn (64:Int)∧St S' M w
theorem dQ {S M} (w) (V:St S M w) (vm m) (hm:RSl S vm m):
  Ac prog 141 [vm,.int .i64 64] w fun v w'=>WT S M m v w':=by
 unfold Ac;have h1:=hm.oneCell;go_enter func141,ntmps141;repeat' (first|(apply O ();go_step)|apply sY ()|(apply sC ();clear V;intro bx w V)|fail)
 refine GP rfl (A8 rfl) ?_;(try simp only [AV,List.drop_zero,List.drop_succ_cons,List.take_succ_cons,List.take_zero,AB,Ap]);obtain ⟨S1,hS1,V,hpn⟩:=AC (α:=Int) (x:=(64:Int)) V (by exact ⟨rfl,by unfold Au;omega⟩) rfl
 change St S1 (.box _ vm.cells.toList _::M) w at V
 rw [Go.Sl.CS h1] at V;obtain ⟨S2,hS2,V,hps⟩:=AC (α:=List UInt8) (x:=m) V (by exact ⟨vm,rfl,hm.mono hS1⟩) rfl;exact ⟨_,rfl,S2,_,_,hS1.trans hS2,rfl,hps,hpn.mono hS2,V⟩
def LO (m:List UInt8) (k:Nat):List UInt8:=(m.drop (64 * k)).take 64
def dR (S:Ad) (m:List UInt8) (k:Nat) (vs:List Value):Prop:=∃ v,vs=[v]∧RSl S v (LO m k)
theorem ZM {S} (m Nqq) (hN:m.length=64 * Nqq) (hl:m.length≤16777216) (ps pn) (hs:Pt S ps m) (hn:Pt S pn (64:Int)):LU prog S 148 [ps,pn] Nqq (dR S m):=by
 intro l MM hY w V;have hN':m.length≤64 * Nqq∧64 * Nqq≤m.length:=by omega
 clear hN;go_enter func148,ntmps148;repeat' (first|(apply O ();go_step)|fail)
 go_loopw [4] (fun v wr=>∃ k,k≤Nqq∧v=.int .i64 ((64 * k:Nat):Int)∧St S (MM k) wr) (fun v _=>m.length - (intOf v).toNat)
 case atStart=>exact ⟨0,Nat.zero_le _,rfl,V⟩
 case round =>
  clear V;obtain ⟨k,hk,rfl,V⟩:=hrel;by_cases hlt:k < Nqq
  ·have h64:((64 * k:Nat):Int) < m.length:=by omega
   have hlen:((m.drop (64 * k)).take (m.length - 64 * k)).length=m.length - 64 * k:=by rw [List.length_take,List.length_drop];omega
   have hmin:min (64:Int) (((m.drop (64 * k)).take (m.length - 64 * k)).length:Nat)=64:=by rw [hlen];omega
   have Hmin:=Lib.hid hmin;clear hmin hlen;repeat' (first|(apply O ();go_step)|(apply tL ();refine An V (Aj X Ak Y) ?_;rintro v ⟨hvl,hv1⟩<;>apply nZ ())|apply sY ()|fail)
   refine AD V kr ?_;clear V;intro ops;apply nZ ()
   ((refine BN 0 rfl kr rfl rfl (fun w V=>Am X Ak Y) ?_;rintro v ⟨rfl,hI⟩))<;>apply nZ ()
   ((refine BN 1 rfl kr rfl rfl (fun w V=>Aj X Ak Y) ?_;rintro v ⟨hvl,hv1⟩))<;>apply nZ ()
   refine td 2 rfl ?_
   ((refine BN 3 rfl kr rfl rfl (fun w V=>F9 (a:=64 * k) (b:=m.length) X hvl Y Y (.inr ⟨.i64,by simp [Ai,AV]⟩) (.inl ⟨rfl,rfl⟩) (.inl rfl) (by omega) (Nat.le_refl _) ) ?_;rintro v  L))<;>apply nZ ()
   refine td 4 rfl ?_;refine tq 5 rfl (by exact VP rfl rfl) ?_;refine td 6 rfl ?_;refine AJ kr ?_;clear ops;intro w V;rw [Hmin.out];repeat' ((apply ZZ 4);first|(apply O ();go_step)|fail)
   refine (wpIn_wide (n:=0)).1 (wpIn_region_lit (Oj 10 (.inl rfl) ?_ rfl ?_))
   ·rintro ⟨a,w,⟨v,hv⟩,_⟩;cases hv
   ·simp only [List.take_succ_cons,List.take_zero,List.drop_succ_cons,List.drop_zero];repeat' (first|(apply O ();go_step)|(apply tL ();refine An V (Aj X Ak Y) ?_;rintro v ⟨hvl,hv1⟩<;>apply nZ ())|fail)
    refine CG (a:=64 * k) (b:=64 * k+64) X hvl Y Y (.inr ⟨.i64,by simp [Ai,AV]⟩) (.inr ⟨.i64,by simp [Ai,AV]⟩) (.inr ⟨.i64,64 * k+64,by simp [Ai,AV],Nat.le_refl _,by omega,rfl⟩) (by omega) (by omega) ?_;intro vs hvs;rw [Nat.add_sub_cancel_left] at hvs;refine nY ?_;repeat' (first|(apply O ();go_step)|fail)
    refine Qv rfl rfl (hY k hlt _ ⟨vs,rfl,hvs⟩ _ V) ?_;clear V;intro w V;refine nY ?_;refine E7 (.inl rfl) ?_ rfl ?_
    ·rintro ⟨a,w,⟨v,hv⟩,_⟩;cases hv
    ·repeat' (first|(apply O ();go_step)|(apply tL ();refine An V (Am X Ak Y) ?_;rintro v ⟨rfl,hI⟩<;>apply nZ ())|fail)
     go_roundw
     case rel=>exact ⟨k+1,by omega,by go_num,V⟩
     case measure=>simp [intOf];omega
  ·obtain rfl:k=Nqq:=by omega
   repeat' (first|(apply O ();go_step)|(apply tL ();refine An V (Aj X Ak Y) ?_;rintro v ⟨hvl,hv1⟩<;>apply nZ ())|apply sY ()|fail)
   go_end0
   exact ⟨⟨_,rfl⟩,V⟩
end Go.Proofs.YtmmbidoldegemaaGreatDoor
