/- Part 32 of the proof that the law of the last part holds; no conditions. -/
import Derived.Deep.Cut
import Derived.Test.YtmmbidoldegemaaGreatDoorZ15
import Derived.Test.YtmmbidoldegemaaGreatDoorZ30
set_option linter.unusedSimpArgs false
set_option linter.unusedVariables false
set_option maxRecDepth 8000
set_option maxHeartbeats 8000000
namespace Go.Proofs.YtmmbidoldegemaaGreatDoor
open Go.RowKit Go.Sl Go.Srt
instance gg {α:Type} [Rep α]:Rep (Tg α) where
 z:=Rep.z α
 agg:=Rep.agg α
 R S cs x:=Rep.R S cs x.x
 mono hS h:=Rep.mono hS h
 len h:=Rep.len h
 one h:=Rep.one h
 z1:=Rep.z1
abbrev TP:=Tg Pn
def kP (p:Pn):Int×Int:=(p.1,p.2.1)
abbrev BW:TP→TP→Int:=Kz kP
theorem Ej:Srt.Ord BW:=jg kP
def lA:Pn:=(0,0,0,[],())
def AD:TP:=⟨lA,0⟩
theorem BF {S:Ac} {cl:List Value} {x:Pn} (h:Rep.R S cl x):∃ so:Option Addr×Nat×Nat,cl=[.int .i64 x.1,.int .i64 x.2.1,.int .i64 x.2.2.1,.slice so.1 so.2.1 so.2.2]∧RSl S (.slice so.1 so.2.1 so.2.2) x.2.2.2.1∧Au x.1∧Au x.2.1∧Au x.2.2.1:=by
 obtain ⟨hl,h1,h2⟩:=h;obtain ⟨hl2,h3,h4⟩:=h2;obtain ⟨hl3,h5,h6⟩:=h4;obtain ⟨hl4,h7,h8⟩:=h6;obtain ⟨e1,i1⟩:=h1;obtain ⟨e2,i2⟩:=h3;obtain ⟨e3,i3⟩:=h5;obtain ⟨v,e4,h9⟩:=h7
 have hv:∃ a n c,v=.slice a n c:=by
  apply gv ()
 obtain ⟨a,n,c,rfl⟩:=hv;refine ⟨(a,n,c),?_,h9,i1,i2,i3⟩;apply ip ()
theorem Dd {S M} (w:World) (hst:St S M w) (cl:List Value) (p:Pn) (hR:Rep.R S cl p) :
  Ad Tryz.prog 23 [.agg cl.toArray] w fun v w'=>v=.agg #[.int .i64 p.1,.int .i64 p.2.1]∧St S M w':=by
 unfold Ad;obtain ⟨so,rfl,h0,h1,h2,h3⟩:=BF hR;go_enter Tryz.func23,Tryz.ntmps23;repeat' (first|(apply gK ();go_step)|apply sX ()|(apply sS ();clear hst;intro w hst)|(apply sB ();clear hst;intro bx w hst)|(apply sA ();clear hst;intro bk w hst)|fail)
 refine FI rfl (AT hst rfl _ BoxIn.h Aa rfl rfl) ?_;(try simp only [AX,List.drop_zero,List.drop_succ_cons,List.take_succ_cons,List.take_zero,As,Ap]);exact ⟨_,rfl,rfl,hst.drop.drop⟩
theorem Rl {S M} (w:World) (hst:St S M w) (a:Int) :
  Ad Tryz.prog 55 [.int .i64 a] w fun v w'=>v=.bool false∧St S M w':=by
 unfold Ad;go_enter Tryz.func55,Tryz.ntmps55;have e:(a != a)=false:=by simp
 repeat' (first|apply sK ()|(apply gK ();go_step)|fail)
 go_ret;exact ⟨_,rfl,rfl,hst⟩
def Ie (a b:Int):Int:=if a < b then -1 else if a > b then 1 else 0
theorem Of {S M} (w:World) (hst:St S M w) (a b:Int) :
  Ad Tryz.prog 30 [.int .i64 a,.int .i64 b] w fun v w'=>v=.int .i64 (Ie a b)∧St S M w':=by
 unfold Ad;unfold Ie;by_cases h1:a < b
 ·rw [if_pos h1];go_enter Tryz.func30,Tryz.ntmps30;apply ie ()
 ·rw [if_neg h1];by_cases h2:a > b
  ·rw [if_pos h2];go_enter Tryz.func30,Tryz.ntmps30;apply ie ()
  ·rw [if_neg h2];go_enter Tryz.func30,Tryz.ntmps30;apply ie ()
def Mk:List Int→Int
 | []=>0
 | x::r=>if x=0 then Mk r else x
theorem jh {S M} (w:World) (hst:St S M w) (vs:Value) (xs:List Int) (hx:RSl S vs xs) (hm:xs.length≤100) :
  Ad Tryz.prog 29 [vs] w fun v w'=>v=.int .i64 (Mk xs)∧St S M w':=by
 unfold Ad;obtain ⟨R,hR⟩:∃ R,Mk xs=R:=⟨_,rfl⟩
 rw [hR];have HR:=Lib.hid hR;clear hR;go_enter Tryz.func29,Tryz.ntmps29;repeat' (first|(apply gK ();go_step)|apply sX ()|fail)
 go_loopw [8] (fun u8 wr=>∃ i:Nat,i≤xs.length∧u8=.int .i64 (i:Int)∧Hid (Mk (xs.drop i)=R)∧St S M wr) (fun v _=>xs.length - (intOf v).toNat)
 case atStart=>exact ⟨0,Nat.zero_le _,rfl,HR,hst⟩
 case round =>
  clear hst HR;obtain ⟨i,hi,rfl,HR,hst⟩:=hrel;by_cases hlt:i < xs.length
  ·have HN:=HR.out;rw [List.drop_eq_getElem_cons hlt,Mk] at HN;obtain ⟨z,hz⟩:∃ z,(xs[i] != 0)=z:=⟨_,rfl⟩
   cases z with
   | true =>
    rw [if_neg (bne_iff_ne.1 hz)] at HN;have HN:=Lib.hid HN;repeat' (first|apply sK ()|(apply gK ();go_step)|(apply sN ();intro hI)|(apply sI ();intro v hp)|fail)
    go_ret;exact ⟨_,rfl,by rw [← HN.out];rfl,hst⟩
   | false =>
    rw [if_pos (bne_eq_false_iff_eq.1 hz)] at HN;have HN:=Lib.hid HN;repeat' (first|apply sK ()|(apply gK ();go_step)|(apply sN ();intro hI)|(apply sI ();intro v hp)|fail)
    apply VX ()
  ·have HN:=HR.out;rw [List.drop_of_length_le (by omega),Mk] at HN;have HN:=Lib.hid HN;repeat' (first|(apply gK ();go_step)|fail)
   go_ret;exact ⟨_,rfl,by rw [← HN.out];rfl,hst⟩
theorem dO {a b:Int×Int} (h:a≠b):Mk [Ie a.1 b.1,Ie a.2 b.2]=Mw a b:=by
 obtain ⟨a1,a2⟩:=a;obtain ⟨b1,b2⟩:=b;unfold Mw;rw [if_neg h];simp only [Mk,Ie];by_cases h1:a1 < b1
 ·simp [h1]
 ·by_cases h2:b1 < a1
  ·simp [h1,h2]
  ·have e:a1=b1:=by omega
   subst e;have h3:a2≠b2:=fun e=>h (by rw [e])
   by_cases h4:a2 < b2
   ·simp [h4]
   ·have h5:a2 > b2:=by omega
    simp [h4,h5]
theorem Md {S:Ac} {a:Int} {cs:List Value} {xs:List Int} (h:Au a) (t:RL S cs xs):RL S (.int .i64 a::cs) (a::xs):=RL.append (c:=[.int .i64 a]) (xs:=[a]) (RL.one_mk ⟨rfl,h⟩) t
theorem RC (a b:Int):Au (Ie a b):=by
 unfold Ie Au;split
 ·omega
 ·split<;>omega
instance lh:Key Tryz.prog 3 Int 1:=Nm kr
instance lg:Key Tryz.prog 57 (Int×Int) 2:=Pm inferInstance kr kr (by decide)
instance lw:EqTy Tryz.prog 57:=⟨by kernel_rfl,by kernel_rfl,by kernel_rfl⟩
abbrev kV (a:Int×Int):Value:=.agg #[.int .i64 a.1,.int .i64 a.2]
theorem Mj {S M} (w:World) (hst:St S M w) (c1:List Value) (x:TP) (h1:Rep.R S c1 x) (c2:List Value) (y:TP) (h2:Rep.R S c2 y) :
  Ad Tryz.prog 28 [.agg c1.toArray,.agg c2.toArray] w fun v w'=>v=.int .i64 (Mw (kP x.x) (kP y.x))∧St S M w':=by
 unfold Ad;replace h1:Rep.R S c1 x.x:=h1;replace h2:Rep.R S c2 y.x:=h2;obtain ⟨x,tx⟩:=x;obtain ⟨y,ty⟩:=y;simp only at h1 h2 ⊢;have hb1:=h1;have hb2:=h2;obtain ⟨sx,rfl,hx0,hx1,hx2,hx3⟩:=BF h1;obtain ⟨sy,rfl,hy0,hy1,hy2,hy3⟩:=BF h2;clear h1 h2;obtain ⟨R,hR⟩:∃ R,Mw (kP x) (kP y)=R:=⟨_,rfl⟩
 rw [hR];have HR:=Lib.hid hR;clear hR;go_enter Tryz.func28,Tryz.ntmps28;repeat' ((apply Z1 ());first|(apply gK ();go_step)|(apply sB ();clear hst;intro bx w hst)|fail)
 obtain ⟨S1,hS1,hst1,hpy⟩:=AC (α:=Pn) hst hb2 rfl;generalize Value.pointer (some ⟨bx,0,none⟩)=pY at *;clear hst;rename Nat=>bz
 obtain ⟨S2,hS2,hst,hpx⟩:=AC (α:=Pn) hst1 (Rep.mono hS1 hb1) rfl;clear hst1 hb1 hb2;replace hpy:=Pt.mono hS2 hpy;generalize Value.pointer (some ⟨bx,0,none⟩)=pX at *;have cX:=fun {S':Ac} {M:List Chunk} (w:World) (hst:St S' M w) (cl:List Value) (hR:Rep.R S' cl x)=>Dd w hst cl x hR
 have cY:=fun {S':Ac} {M:List Chunk} (w:World) (hst:St S' M w) (cl:List Value) (hR:Rep.R S' cl y)=>Dd w hst cl y hR
 go_cut [5,6] from 7 (fun u5 u6 wr=>∃ b5 b6:Nat,u5=.pointer (some ⟨b5,0,none⟩)∧u6=.pointer (some ⟨b6,0,none⟩)∧St S2 (.box b5 [.int .i64 x.1,.int .i64 x.2.1] 57::.box b6 [.int .i64 y.1,.int .i64 y.2.1] 57::M) wr)
 case first =>
  refine AN hst kr ?_;clear hst;intro w hst;have hSS:=Bk hst;(try refine nX ?_);refine px 0 rfl (Av (y:=x) Ab hpx Aa) ?_;rintro v0 ⟨c0,rfl,hc0⟩;refine px 2 rfl (Av (y:=y) Ab hpy Aa) ?_;rintro v2 ⟨c2,rfl,hc2⟩;refine O0 1 4 5 rfl rfl rfl kr ?_ ?_ ?_;intro K hK;refine sc (cX w hst c0 (Rep.mono hSS hc0)) ?_;clear hst;rintro v1 w ⟨rfl,hst⟩;refine pn hK ?_;clear hK K;refine O0 3 4 5 rfl rfl rfl kr ?_ ?_ ?_;intro K hK;refine sc (cY w hst c2 (Rep.mono hSS hc2)) ?_;clear hst;rintro v3 w ⟨rfl,hst⟩;refine pn hK ?_;clear hK K;refine BQ 4 5 rfl rfl kr ?_ ?_;intro K hK;refine Bv hst Aa ?_;clear hst;intro b4 w hst;(try replace hst:=nH hst);refine pn hK ?_;clear hK K;refine po 5 rfl ?_;intro K hK;refine Bv hst Aa ?_;clear hst;intro b5 w hst;(try replace hst:=nH hst);refine pn hK ?_;clear hK K;refine po 6 rfl ?_;intro K hK;(refine AB hst rfl _ BoxIn.h Aa Ab rfl A6 A5 (by simp<;>omega) ?_);clear hst;intro w hst;(try replace hst:=nH hst);refine pn hK ?_;clear hK K;refine po 7 rfl ?_;intro K hK;(refine AB hst rfl _ BoxIn.h Aa Ab rfl A6 A5 (by simp<;>omega) ?_);clear hst;intro w hst;(try replace hst:=nH hst);refine pn hK ?_;clear hK K;refine Az kr ?_;rotate_left;intro K hK;refine Bv hst Aa ?_;clear hst;intro b5 w hst;(try replace hst:=nH hst);refine pn hK ?_;clear hK K;refine po 4 rfl ?_;intro K hK;refine Bv hst Aa ?_;clear hst;intro b4 w hst;(try replace hst:=nH hst);refine pn hK ?_;clear hK K
  refine po 6 rfl ?_;intro K hK;(refine AB hst rfl _ BoxIn.h Aa Ab rfl A6 A5 (by simp<;>omega) ?_);clear hst;intro w hst;(try replace hst:=nH hst);refine pn hK ?_;clear hK K;refine po 7 rfl ?_;intro K hK;(refine AB hst rfl _ BoxIn.h Aa Ab rfl A6 A5 (by simp<;>omega) ?_);clear hst;intro w hst;(try replace hst:=nH hst);refine pn hK ?_;clear hK K;refine Az kr ?_;rotate_left;intro K hK;refine Bv hst Aa ?_;clear hst;intro b4 w hst;(try replace hst:=nH hst);refine pn hK ?_;clear hK K;refine BQ 3 5 rfl rfl kr ?_ ?_;intro K hK;refine sc (cY w hst c2 (Rep.mono hSS hc2)) ?_;clear hst;rintro v3 w ⟨rfl,hst⟩;refine pn hK ?_;clear hK K;refine po 5 rfl ?_;intro K hK;refine Bv hst Aa ?_;clear hst;intro b5 w hst;(try replace hst:=nH hst);refine pn hK ?_;clear hK K;refine po 6 rfl ?_;intro K hK;(refine AB hst rfl _ BoxIn.h Aa Ab rfl A6 A5 (by simp<;>omega) ?_);clear hst;intro w hst;(try replace hst:=nH hst);refine pn hK ?_;clear hK K;refine po 7 rfl ?_;intro K hK;(refine AB hst rfl _ BoxIn.h Aa Ab rfl A6 A5 (by simp<;>omega) ?_);clear hst;intro w hst;(try replace hst:=nH hst);refine pn hK ?_;clear hK K;refine Az kr ?_;rotate_left;intro K hK;refine Bv hst Aa ?_;clear hst;intro b5 w hst;(try replace hst:=nH hst);refine pn hK ?_;clear hK K;refine po 3 rfl ?_;intro K hK;refine sc (cY w hst c2 (Rep.mono hSS hc2)) ?_;clear hst;rintro v3 w ⟨rfl,hst⟩;refine pn hK ?_;clear hK K
  refine po 6 rfl ?_;intro K hK;(refine AB hst rfl _ BoxIn.h Aa Ab rfl A6 A5 (by simp<;>omega) ?_);clear hst;intro w hst;(try replace hst:=nH hst);refine pn hK ?_;clear hK K;refine po 7 rfl ?_;intro K hK;(refine AB hst rfl _ BoxIn.h Aa Ab rfl A6 A5 (by simp<;>omega) ?_);clear hst;intro w hst;(try replace hst:=nH hst);refine pn hK ?_;clear hK K;refine Az kr ?_;rotate_left;intro K hK;refine Bv hst Aa ?_;clear hst;intro b5 w hst;(try replace hst:=nH hst);refine pn hK ?_;clear hK K;refine BQ 3 4 rfl rfl kr ?_ ?_;intro K hK;refine sc (cY w hst c2 (Rep.mono hSS hc2)) ?_;clear hst;rintro v3 w ⟨rfl,hst⟩;refine pn hK ?_;clear hK K;refine po 4 rfl ?_;intro K hK;refine Bv hst Aa ?_;clear hst;intro b4 w hst;(try replace hst:=nH hst);refine pn hK ?_;clear hK K;refine po 6 rfl ?_;intro K hK;(refine AB hst rfl _ BoxIn.h Aa Ab rfl A6 A5 (by simp<;>omega) ?_);clear hst;intro w hst;(try replace hst:=nH hst);refine pn hK ?_;clear hK K;refine po 7 rfl ?_;intro K hK;(refine AB hst rfl _ BoxIn.h Aa Ab rfl A6 A5 (by simp<;>omega) ?_);clear hst;intro w hst;(try replace hst:=nH hst);refine pn hK ?_;clear hK K;refine Az kr ?_;rotate_left;intro K hK;refine Bv hst Aa ?_;clear hst;intro b4 w hst;(try replace hst:=nH hst);refine pn hK ?_;clear hK K;refine po 3 rfl ?_;intro K hK;refine sc (cY w hst c2 (Rep.mono hSS hc2)) ?_;clear hst;rintro v3 w ⟨rfl,hst⟩;refine pn hK ?_;clear hK K
  refine po 6 rfl ?_;intro K hK;(refine AB hst rfl _ BoxIn.h Aa Ab rfl A6 A5 (by simp<;>omega) ?_);clear hst;intro w hst;(try replace hst:=nH hst);refine pn hK ?_;clear hK K;refine po 7 rfl ?_;intro K hK;(refine AB hst rfl _ BoxIn.h Aa Ab rfl A6 A5 (by simp<;>omega) ?_);clear hst;intro w hst;(try replace hst:=nH hst);refine pn hK ?_;clear hK K;refine Az kr ?_;rotate_left;intro K hK;refine Bv hst Aa ?_;clear hst;intro b4 w hst;(try replace hst:=nH hst);refine pn hK ?_;clear hK K;refine BQ 1 5 rfl rfl kr ?_ ?_;intro K hK;refine sc (cX w hst c0 (Rep.mono hSS hc0)) ?_;clear hst;rintro v1 w ⟨rfl,hst⟩;refine pn hK ?_;clear hK K;refine BQ 3 5 rfl rfl kr ?_ ?_;intro K hK;refine sc (cY w hst c2 (Rep.mono hSS hc2)) ?_;clear hst;rintro v3 w ⟨rfl,hst⟩;refine pn hK ?_;clear hK K;refine po 5 rfl ?_;intro K hK;refine Bv hst Aa ?_;clear hst;intro b5 w hst;(try replace hst:=nH hst);refine pn hK ?_;clear hK K;refine po 6 rfl ?_;intro K hK;(refine AB hst rfl _ BoxIn.h Aa Ab rfl A6 A5 (by simp<;>omega) ?_);clear hst;intro w hst;(try replace hst:=nH hst);refine pn hK ?_;clear hK K;refine po 7 rfl ?_;intro K hK;(refine AB hst rfl _ BoxIn.h Aa Ab rfl A6 A5 (by simp<;>omega) ?_);clear hst;intro w hst;(try replace hst:=nH hst);refine pn hK ?_;clear hK K;refine Az kr ?_;rotate_left;intro K hK;refine Bv hst Aa ?_;clear hst;intro b5 w hst;(try replace hst:=nH hst);refine pn hK ?_;clear hK K
  refine po 3 rfl ?_;intro K hK;refine sc (cY w hst c2 (Rep.mono hSS hc2)) ?_;clear hst;rintro v3 w ⟨rfl,hst⟩;refine pn hK ?_;clear hK K;refine po 6 rfl ?_;intro K hK;(refine AB hst rfl _ BoxIn.h Aa Ab rfl A6 A5 (by simp<;>omega) ?_);clear hst;intro w hst;(try replace hst:=nH hst);refine pn hK ?_;clear hK K;refine po 7 rfl ?_;intro K hK;(refine AB hst rfl _ BoxIn.h Aa Ab rfl A6 A5 (by simp<;>omega) ?_);clear hst;intro w hst;(try replace hst:=nH hst);refine pn hK ?_;clear hK K;refine Az kr ?_;rotate_left;intro K hK;refine Bv hst Aa ?_;clear hst;intro b5 w hst;(try replace hst:=nH hst);refine pn hK ?_;clear hK K;refine po 1 rfl ?_;intro K hK;refine sc (cX w hst c0 (Rep.mono hSS hc0)) ?_;clear hst;rintro v1 w ⟨rfl,hst⟩;refine pn hK ?_;clear hK K;refine po 3 rfl ?_;intro K hK;refine sc (cY w hst c2 (Rep.mono hSS hc2)) ?_;clear hst;rintro v3 w ⟨rfl,hst⟩;refine pn hK ?_;clear hK K;refine po 6 rfl ?_;intro K hK;(refine AB hst rfl _ BoxIn.h Aa Ab rfl A6 A5 (by simp<;>omega) ?_);clear hst;intro w hst;(try replace hst:=nH hst);refine pn hK ?_;clear hK K;refine po 7 rfl ?_;intro K hK;(refine AB hst rfl _ BoxIn.h Aa Ab rfl A6 A5 (by simp<;>omega) ?_);clear hst;intro w hst;(try replace hst:=nH hst);refine pn hK ?_;clear hK K;refine Az kr ?_;rotate_left;intro K hK;refine Bv hst Aa ?_;clear hst;intro b5 w hst;(try replace hst:=nH hst);refine pn hK ?_;clear hK K;refine BQ 1 4 rfl rfl kr ?_ ?_
  intro K hK;refine sc (cX w hst c0 (Rep.mono hSS hc0)) ?_;clear hst;rintro v1 w ⟨rfl,hst⟩;refine pn hK ?_;clear hK K;refine BQ 3 4 rfl rfl kr ?_ ?_;intro K hK;refine sc (cY w hst c2 (Rep.mono hSS hc2)) ?_;clear hst;rintro v3 w ⟨rfl,hst⟩;refine pn hK ?_;clear hK K;refine po 4 rfl ?_;intro K hK;refine Bv hst Aa ?_;clear hst;intro b4 w hst;(try replace hst:=nH hst);refine pn hK ?_;clear hK K;refine po 6 rfl ?_;intro K hK;(refine AB hst rfl _ BoxIn.h Aa Ab rfl A6 A5 (by simp<;>omega) ?_);clear hst;intro w hst;(try replace hst:=nH hst);refine pn hK ?_;clear hK K;refine po 7 rfl ?_;intro K hK;(refine AB hst rfl _ BoxIn.h Aa Ab rfl A6 A5 (by simp<;>omega) ?_);clear hst;intro w hst;(try replace hst:=nH hst);refine pn hK ?_;clear hK K;refine Az kr ?_;rotate_left;intro K hK;refine Bv hst Aa ?_;clear hst;intro b4 w hst;(try replace hst:=nH hst);refine pn hK ?_;clear hK K;refine po 3 rfl ?_;intro K hK;refine sc (cY w hst c2 (Rep.mono hSS hc2)) ?_;clear hst;rintro v3 w ⟨rfl,hst⟩;refine pn hK ?_;clear hK K;refine po 6 rfl ?_;intro K hK;(refine AB hst rfl _ BoxIn.h Aa Ab rfl A6 A5 (by simp<;>omega) ?_);clear hst;intro w hst;(try replace hst:=nH hst);refine pn hK ?_;clear hK K;refine po 7 rfl ?_;intro K hK;(refine AB hst rfl _ BoxIn.h Aa Ab rfl A6 A5 (by simp<;>omega) ?_);clear hst;intro w hst;(try replace hst:=nH hst);refine pn hK ?_;clear hK K;refine Az kr ?_;rotate_left;intro K hK;refine Bv hst Aa ?_;clear hst;intro b4 w hst;(try replace hst:=nH hst);refine pn hK ?_;clear hK K
  refine po 1 rfl ?_;intro K hK;refine sc (cX w hst c0 (Rep.mono hSS hc0)) ?_;clear hst;rintro v1 w ⟨rfl,hst⟩;refine pn hK ?_;clear hK K;refine po 3 rfl ?_;intro K hK;refine sc (cY w hst c2 (Rep.mono hSS hc2)) ?_;clear hst;rintro v3 w ⟨rfl,hst⟩;refine pn hK ?_;clear hK K;refine po 6 rfl ?_;intro K hK;(refine AB hst rfl _ BoxIn.h Aa Ab rfl A6 A5 (by simp<;>omega) ?_);clear hst;intro w hst;(try replace hst:=nH hst);refine pn hK ?_;clear hK K;refine po 7 rfl ?_;intro K hK;(refine AB hst rfl _ BoxIn.h Aa Ab rfl A6 A5 (by simp<;>omega) ?_);clear hst;intro w hst;(try replace hst:=nH hst);refine pn hK ?_;clear hK K;refine Az kr ?_;rotate_left
  all_goals
   repeat' (first|(apply gK ();go_step)|fail)
   go_meet
   case rel=>first|exact ⟨_,_,rfl,rfl,hst⟩|exact ⟨_,_,rfl,rfl,hst.move (k:=1) rfl⟩
 case rest =>
  obtain ⟨b5,b6,rfl,rfl,hst⟩:=hcut;by_cases he:((x.1,x.2.1):Int×Int)=(y.1,y.2.1)
  ·have hz:Hid ((0:Int)=R):=Lib.hid (((XR (kP x) (kP y)).2 he).symm.trans HR.out);have hdc:decide (((x.1,x.2.1):Int×Int)=(y.1,y.2.1))=true:=decide_eq_true he;clear he;go_step;repeat' (first|(with_reducible refine kB ?_;refine Ag hst (Kb rfl rfl (CW hx1 hx2) (CW hy1 hy2) Aa Aa Aa (by assumption)) ?_<;>(try refine nX ?_))|(apply gK ();go_step)|apply sX ()|fail)
   go_ret;exact ⟨_,rfl,by rw [← hz.out];rfl,St.weaken (hS1.trans hS2) hst.drop.drop⟩
  ·have hz:Hid (Mk [Ie x.1 y.1,Ie x.2.1 y.2.1]=R):=Lib.hid ((dO (a:=kP x) (b:=kP y) he).trans HR.out);have cA:=fun {S':Ac} {M:List Chunk} (w:World) (hst:St S' M w)=>Of w hst x.1 y.1
   have cB:=fun {S':Ac} {M:List Chunk} (w:World) (hst:St S' M w)=>Of w hst x.2.1 y.2.1
   have i1:=RC x.1 y.1;have i2:=RC x.2.1 y.2.1;generalize Ie x.1 y.1=r1 at *;generalize Ie x.2.1 y.2.1=r2 at *;clear cX cY HR;have hdc:decide (((x.1,x.2.1):Int×Int)=(y.1,y.2.1))=false:=decide_eq_false he;clear he;go_step;repeat' ((apply Z4 ());first|(with_reducible refine kB ?_;refine Ag hst (Kb rfl rfl (CW hx1 hx2) (CW hy1 hy2) Aa Aa Aa (by assumption)) ?_<;>(try refine nX ?_))|(apply gK ();go_step)|apply sX ()|fail)
   obtain ⟨S3,hS3,hst3,hpa⟩:=AC (α:=Int×Int) hst (CW hx1 hx2) rfl;clear hst;obtain ⟨S4,hS4,hst,hpb⟩:=AC (α:=Int×Int) hst3 (CW hy1 hy2) rfl;clear hst3;replace hpa:=Pt.mono hS4 hpa;generalize Value.pointer (some ⟨b5,0,none⟩)=pA at *;generalize Value.pointer (some ⟨b6,0,none⟩)=pB at *;refine AN hst kr ?_;clear hst;intro w hst;have hSS:=Bk hst;(try refine nX ?_);refine px 0 rfl (Jv Ab hpa rfl Aa Aa) ?_;rintro v0 hp0;refine px 1 rfl (Am Ab hp0 Aa) ?_;rintro v1 ⟨rfl,hI1⟩;refine px 2 rfl (Jv Ab hpb rfl Aa Aa) ?_;rintro v2 hp2;refine px 3 rfl (Am Ab hp2 Aa) ?_;rintro v3 ⟨rfl,hI3⟩;refine px 5 rfl (Ju Ab hpa rfl Aa Aa) ?_;rintro v5 hp5;refine px 6 rfl (Am Ab hp5 Aa) ?_;rintro v6 ⟨rfl,hI6⟩;refine px 7 rfl (Ju Ab hpb rfl Aa Aa) ?_;rintro v7 hp7;refine px 8 rfl (Am Ab hp7 Aa) ?_;rintro v8 ⟨rfl,hI8⟩;refine po 4 rfl ?_;intro K hK;refine sc (cA w hst) ?_;clear hst;rintro v4 w ⟨rfl,hst⟩;refine pn hK ?_;clear hK K;refine po 9 rfl ?_;intro K hK;refine sc (cB w hst) ?_;clear hst;rintro v9 w ⟨rfl,hst⟩;refine pn hK ?_;clear hK K;refine po 10 rfl ?_;intro K hK;refine AA (vs:=[.int .i64 r1,.int .i64 r2]) hst Aa Aa rfl rfl (by simp [Value.cells]) rfl (by omega) (by omega) ?_;clear hst;intro x10 w hst0;obtain ⟨S7,hS7,hst,hX7⟩:=St.freeze (α:=Int) (xs:=[r1,r2]) hst0 (Md i1 (Md i2 RL.nil)) rfl;clear hst0;(try replace hst:=nH hst);replace hSS:=hSS.trans hS7;refine pn hK ?_;clear hK K
   refine po 11 rfl ?_;intro K hK;refine sc (jh w hst _ _ hX7 (by show 2≤100;omega)) ?_;clear hst;rintro v11 w ⟨rfl,hst⟩;refine pn hK ?_;clear hK K;refine pd 12 rfl ?_;refine Az kr ?_;repeat' (first|(apply gK ();go_step)|fail)
   go_ret;exact ⟨_,rfl,by rw [← hz.out];rfl,St.weaken (hS1.trans (hS2.trans (hS3.trans (hS4.trans hSS)))) hst⟩
theorem getD_some {α:Type} {d:α} {xs:List α} {i:Nat} (h:i < xs.length):xs[i]? = some (xs.getD i d):=by
 rw [List.getElem?_eq_getElem h,DC h]
theorem Q5 {i j:Nat} (h:j≤i):Value.int .i64 ((i:Int) - (j:Int))=.int .i64 ((i - j:Nat):Int):=by rw [Int.ofNat_sub h]
theorem TV {xs ys:List TP} {a b n:Int} {a' b' n':Nat} (h:II AD xs ys a.toNat b.toNat n.toNat) (h1:a=a') (h2:b=b') (h3:n=n'):II AD xs ys a' b' n':=by
 subst h1;subst h2;subst h3
 simpa using h
abbrev LO:Value:=.func (.func 28) #[] #[]
theorem Ze {S M} (w:World) (v:Value) (N:Nat) (xs:List TP) (hN:xs.length=N) (c:List Value) (hst:St S (.sl v 63 4 N c::M) w) (hR:RL S c xs) (a b n:Nat) (hab:a+n≤b) (hb:b+n≤N) (hx:N≤1000000) :
  Ad Tryz.prog 143 [v,.int .i64 a,.int .i64 b,.int .i64 n,LO] w fun _ w'=>∃ c' ys,RL S c' ys∧II AD xs ys a b n∧St S (.sl v 63 4 N c'::M) w':=by
 unfold Ad;have hone:=AW hst;have HN:=Lib.hid hN;clear hN;go_enter Tryz.func143,Tryz.ntmps143;repeat' (first|(apply gK ();go_step)|fail)
 go_loopw [10] (fun v10 wr=>∃ (i:Nat) (c':List Value) (ys:List TP),i≤n∧v10=.int .i64 i∧RL S c' ys∧Hid (II AD xs ys a b i)∧St S (.sl v 63 4 N c'::M) wr) (fun v _=>n - (intOf v).toNat)
 case atStart=>exact ⟨0,c,xs,Nat.zero_le _,rfl,hR,Lib.hid (Wu xs a b),hst⟩
 case round =>
  clear hst hR;obtain ⟨i,c',ys,hi,rfl,hR,hS,hst⟩:=hrel;by_cases hlt:i < n
  ·have hyl:ys.length=N:=hS.out.1.length_eq.trans HN.out;have hia:a+i < ys.length:=by omega
   have hib:b+i < ys.length:=by omega
   have gA:=getD_some (d:=AD) hia;have gB:=getD_some (d:=AD) hib;have ea:((a:Int)+(i:Int)).toNat=a+i:=by omega
   have eb:((b:Int)+(i:Int)).toNat=b+i:=by omega
   have hnx:=Lib.hid (Wv hS.out (show a+i < b by omega) (show b+i < xs.length by rw [HN.out];omega));obtain ⟨ca,hca⟩:∃ cs,Rep.R S cs (ys.getD (a+i) AD):=⟨_,hR.2 _ _ gA⟩
   clear hca ca;have hyl:=Lib.hid hyl;repeat' ((apply Z3 ());first|(apply gK ();go_step)|fail)
   refine AF hst kr ?_;clear hst;intro ops;(try refine nX ?_);refine td 0 rfl ?_;refine td 1 rfl ?_;refine td 2 rfl ?_;refine tq 3 rfl (by exact DV rfl rfl Af) ?_;(refine Ee 4 rfl kr rfl rfl (fun _ _=>by exact C4 Ab) ?_)<;>(try refine nX ?_)
   (refine Ee 5 rfl kr rfl rfl (fun _ _=>by exact C4 Ab) ?_)<;>(try refine nX ?_)
   (refine Ee 6 rfl kr rfl rfl (fun _ _=>by exact C4 Ab) ?_)<;>(try refine nX ?_)
   (refine Ee 7 rfl kr rfl rfl (fun _ _=>by exact DV rfl rfl Af) ?_)<;>(try refine nX ?_)
   refine td 8 rfl ?_;refine td 9 rfl ?_;refine td 10 rfl ?_;refine tq 11 rfl (by exact DV rfl rfl Af) ?_
   ((refine Bz 12 rfl kr rfl rfl (fun w hst=>Aq hst Ab SlIn.h rfl Aa Aa Af Af ) ?_;rintro  v12 hp12;rw [eb] at hp12))<;>(try refine nX ?_)
   refine tx 13 rfl (BP (j:=b+i) Ab hp12 SlIn.h hR Aa gB) ?_;rintro v13 ⟨cb,rfl,hcb⟩;refine td 14 rfl ?_;refine td 15 rfl ?_;refine td 16 rfl ?_;refine tq 17 rfl (by exact DV rfl rfl Af) ?_
   ((refine Bz 18 rfl kr rfl rfl (fun w hst=>Aq hst Ab SlIn.h rfl Aa Aa Af Af ) ?_;rintro  v18 hp18;rw [ea] at hp18))<;>(try refine nX ?_)
   refine tx 19 rfl (BP (j:=a+i) Ab hp18 SlIn.h hR Aa gA) ?_;rintro v19 ⟨ca,rfl,hca⟩
   ((refine Bz 20 rfl kr rfl rfl (fun w hst=>Aq hst Ab SlIn.h rfl Aa Aa Af Af ) ?_;rintro  v20 hp20;rw [ea] at hp20))<;>(try refine nX ?_)
   refine AR 21 rfl kr ?_;intro w hst K hK;refine BJ (u:=.agg cb.toArray) (cs:=cb) hst Ab hp20 SlIn.h Aa Ab rfl (Rep.len hcb) (List.all_eq_true.2 (Rep.one hcb)) (RL.at_len hR hia) ?_;clear hst;intro w hst;(try refine nX ?_);(try replace hst:=nH hst);refine Bb hK hst ?_;clear hst hK K;(try clear w);(try refine nX ?_)
   ((refine Bz 22 rfl kr rfl rfl (fun w hst=>Aq hst Ab SlIn.h rfl Aa Aa Af Af ) ?_;rintro  v22 hp22;rw [eb] at hp22))<;>(try refine nX ?_)
   refine AR 23 rfl kr ?_;intro w hst K hK;refine BJ (u:=.agg ca.toArray) (cs:=ca) hst Ab hp22 SlIn.h Aa Ab rfl (Rep.len hca) (List.all_eq_true.2 (Rep.one hca)) (RL.at_len (RL.set hR hcb hia) (by simpa using hib)) ?_;clear hst;intro w hst;(try refine nX ?_);(try replace hst:=nH hst);refine Bb hK hst ?_;clear hst hK K;(try clear w);(try refine nX ?_);refine AK kr ?_;clear ops;intro w hst;have hq:=RL.set (RL.set hR hcb hia) hca (show b+i < (ys.set (a+i) (ys.getD (b+i) AD)).length by simpa using hib);repeat' (first|(apply gK ();go_step)|fail)
   go_roundw
   case rel=>exact ⟨i+1,_,_,by omega,by go_num,hq,hnx,hst⟩
   case measure=>simp [intOf];omega
  ·obtain rfl:i=n:=by omega
   repeat' (first|(apply gK ();go_step)|fail)
   go_end0
   exact ⟨_,rfl,c',ys,hR,hS.out,hst⟩
theorem Lu {S M} (w:World) (v:Value) (N:Nat) (xs:List TP) (hN:xs.length=N) (c:List Value) (hst:St S (.sl v 63 4 N c::M) w) (hR:RL S c xs) (a b n:Int) (ha:0≤a) (hn:0≤n) (hab:a+n≤b) (hb:b+n≤N) (hx:N≤1000000) :
  Ad Tryz.prog 143 [v,.int .i64 a,.int .i64 b,.int .i64 n,LO] w fun _ w'=>∃ c' ys,RL S c' ys∧II AD xs ys a.toNat b.toNat n.toNat∧St S (.sl v 63 4 N c'::M) w':=by
 obtain ⟨a,rfl⟩:=Int.eq_ofNat_of_zero_le ha;obtain ⟨n,rfl⟩:=Int.eq_ofNat_of_zero_le hn;obtain ⟨b,rfl⟩:=Int.eq_ofNat_of_zero_le (show 0≤b by omega);exact Ze w v N xs hN c hst hR a b n (by omega) (by omega) hx
theorem WY {S M} (w:World) (v:Value) (N:Nat) (xs:List TP) (hN:xs.length=N) (c:List Value) (hst:St S (.sl v 63 4 N c::M) w) (hR:RL S c xs) (a m b:Nat) (ham:a < m) (hmb:m < b) (hb:b≤N) (hx:N≤1000000) :
  Ad Tryz.prog 132 [v,.int .i64 a,.int .i64 m,.int .i64 b,LO] w fun _ w'=>∃ c' ys,RL S c' ys∧Gd AD xs ys a m b∧St S (.sl v 63 4 N c'::M) w':=by
 unfold Ad;have hone:=AW hst;have HN:=Lib.hid hN;clear hN;have h0:=Lib.hid (Sf (d:=AD) xs (Nat.le_of_lt ham) (Nat.le_of_lt hmb));obtain ⟨i0,hi0,ei⟩:∃ i:Nat,i=m - a∧((m:Int) - (a:Int))=(i:Int):=⟨m - a,rfl,by omega⟩
 obtain ⟨j0,hj0,ej⟩:∃ j:Nat,j=b - m∧((b:Int) - (m:Int))=(j:Int):=⟨b - m,rfl,by omega⟩
 rw [← hi0,← hj0] at h0;have b1:0 < i0∧i0+a≤m:=by omega
 have b2:0 < j0∧j0+m≤b:=by omega
 clear hi0 hj0;go_enter Tryz.func132,Tryz.ntmps132;repeat' (first|(apply gK ();go_step)|fail)
 clear ei ej
 go_loopw [10,11] (fun v10 v11 wr=>∃ (i j:Nat) (c':List Value) (ys:List TP),(0 < i∧i+a≤m)∧(0 < j∧j+m≤b)∧v10=.int .i64 i∧v11=.int .i64 j∧RL S c' ys∧Hid (LV AD xs ys a m b i j)∧St S (.sl v 63 4 N c'::M) wr) (fun v v2 _=>(intOf v).toNat+(intOf v2).toNat)
 case atStart=>exact ⟨i0,j0,c,xs,b1,b2,rfl,rfl,hR,h0,hst⟩
 case round =>
  clear hst hR h0;obtain ⟨i,j,c',ys,k1,k2,rfl,rfl,hR,hI,hst⟩:=hrel;have hyl:ys.length=N:=hI.out.1.length_eq.trans HN.out;by_cases hij:i=j
  ·subst hij;have hE:=Lib.hid (fun zs (hs:II AD ys zs (m - i) m i)=>W0 hI.out hs (by omega));repeat' (first|(with_reducible refine kB ?_;refine Ag hst (CK rfl rfl) ?_<;>(try refine nX ?_))|(apply gK ();go_step)|(apply kc ();refine sc (Lu _ v N ys hyl c' hst hR ((m:Int) - (i:Int)) m i (by omega) (by omega) (by omega) (by omega) hx) ?_;clear hst;rintro v w ⟨c2,zs,hR2,hS2,hst⟩)|fail)
   go_end0
   exact ⟨_,rfl,c2,zs,hR2,hE.out zs (by rwa [show ((m:Int) - (i:Int)).toNat=m - i by omega] at hS2),hst⟩
  ·have g1:((i:Int) != (j:Int))=true:=bne_iff_ne.2 (by omega);by_cases hgt:j < i
   ·have hE:=Lib.hid (fun zs (hs:II AD ys zs (m - i) m j)=>Zt hI.out hs hgt (by omega));repeat' (first|apply sK ()|(apply gK ();go_step)|(apply kc ();refine sc (Lu _ v N ys hyl c' hst hR ((m:Int) - (i:Int)) m j (by omega) (by omega) (by omega) (by omega) hx) ?_;clear hst;rintro v w ⟨c2,zs,hR2,hS2,hst⟩)|fail)
    go_roundw
    case rel=>exact ⟨i - j,j,c2,zs,by omega,k2,Q5 (by omega),rfl,hR2,Lib.hid (hE.out zs (TV hS2 (by omega) rfl rfl)),hst⟩
    case measure=>simp [intOf];omega
   ·have hlt:i < j:=by omega
    have hE:=Lib.hid (fun zs (hs:II AD ys zs (m - i) (m+j - i) i)=>Zs hI.out hs hlt (by omega));repeat' (first|apply sK ()|(apply gK ();go_step)|(apply kc ();refine sc (Lu _ v N ys hyl c' hst hR ((m:Int) - (i:Int)) ((m:Int)+(j:Int) - (i:Int)) i (by omega) (by omega) (by omega) (by omega) hx) ?_;clear hst;rintro v w ⟨c2,zs,hR2,hS2,hst⟩)|fail)
    go_roundw
    case rel=>exact ⟨i,j - i,c2,zs,k1,by omega,rfl,Q5 (by omega),hR2,Lib.hid (hE.out zs (TV hS2 (by omega) (by omega) rfl)),hst⟩
    case measure=>simp [intOf];omega
end Go.Proofs.YtmmbidoldegemaaGreatDoor
