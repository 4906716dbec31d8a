/- Part 28 of a proof; no conditions. -/
import Derived.Deep.Cut
import Derived.Test.YtmmbidoldegemaaGreatDoorZ14
import Derived.Test.YtmmbidoldegemaaGreatDoorZ26
set_option linter.all false
set_option maxRecDepth 8000
set_option maxHeartbeats 8000000
namespace Go.Proofs.YtmmbidoldegemaaGreatDoor
open Go.RowKit Go.Sl Go.Srt Go.Proofs.Tryz
instance jl {α:Type} [Z α]:Z (Tg α) where
 z:=Z.z α
 agg:=Z.agg α
 R S cs x:=Z.R S cs x.x
 mono hS h:=Z.mono hS h
 len h:=Z.len h
 one h:=Z.one h
 z1:=Z.z1
abbrev TP:=Tg Pn
def kP (p:Pn):Int×Int:=(p.1,p.2.1)
abbrev Cb:TP→TP→Int:=Ln kP
theorem DR:Srt.Ord Cb:=lu kP
def jp:Pn:=(0,0,0,[],())
def AI:TP:=⟨jp,0⟩
theorem CK {S cl} {x:Pn} (h:Z.R S cl x):∃ so:Option Addr×Nat×Nat,cl=[.int .i64 x.1,.int .i64 x.2.1,.int .i64 x.2.2.1,.slice so.1 so.2.1 so.2.2]∧RSl S (.slice so.1 so.2.1 so.2.2) x.2.2.2.1∧Au x.1∧Au x.2.1∧Au x.2.2.1:=by
 obtain ⟨hl,h1,h2⟩:=h;obtain ⟨hl2,h3,h4⟩:=h2;obtain ⟨hl3,h5,h6⟩:=h4;obtain ⟨hl4,h7,h8⟩:=h6;obtain ⟨e1,i1⟩:=h1;obtain ⟨e2,i2⟩:=h3;obtain ⟨e3,i3⟩:=h5;obtain ⟨v,e4,h9⟩:=h7
 have hv:∃ a n c,v=.slice a n c:=by
  apply js ()
 obtain ⟨a,n,c,rfl⟩:=hv;refine ⟨(a,n,c),?_,h9,i1,i2,i3⟩;apply ak ()
theorem Dx {S M} (w) (V:St S M w) (cl) (p:Pn) (hR:Z.R S cl p):
  Ac prog 23 [.agg cl.toArray] w fun v w'=>v=.agg #[.int .i64 p.1,.int .i64 p.2.1]∧St S M w':=by
 unfold Ac;obtain ⟨so,rfl,h0,h1,h2,h3⟩:=CK hR;go_enter func23,ntmps23;repeat' (first|(apply O ();go_step)|apply sX ()|(apply sS ();clear V;intro w V)|(apply sB ();clear V;intro bx w V)|(apply sA ();clear V;intro bk w V)|fail)
 refine GP rfl (AZ V rfl _ N.h Y rfl rfl) ?_;(try simp only [AV,List.drop_zero,List.drop_succ_cons,List.take_succ_cons,List.take_zero,AB,Ap]);exact ⟨_,rfl,rfl,V.drop.drop⟩
theorem Sp {S M} (w) (V:St S M w) (a):
  Ac prog 55 [.int .i64 a] w fun v w'=>v=.bool false∧St S M w':=by
 unfold Ac;go_enter func55,ntmps55;have e:(a != a)=false:=by simp
 repeat' (first|apply sK ()|(apply O ();go_step)|fail)
 go_ret;exact ⟨_,rfl,rfl,V⟩
def IT (a b:Int):Int:=if a < b then -1 else if a > b then 1 else 0
theorem Pe {S M} (w) (V:St S M w) (a b):
  Ac prog 30 [.int .i64 a,.int .i64 b] w fun v w'=>v=.int .i64 (IT a b)∧St S M w':=by
 unfold Ac;unfold IT;by_cases h1:a < b
 ·rw [if_pos h1];go_enter func30,ntmps30;apply gW ()
 ·rw [if_neg h1];by_cases h2:a > b
  ·rw [if_pos h2];go_enter func30,ntmps30;apply gW ()
  ·rw [if_neg h2];go_enter func30,ntmps30;apply gW ()
def Nk:List Int→Int
 | []=>0
 | x::r=>if x=0 then Nk r else x
theorem lw {S M} (w) (V:St S M w) (vs xs) (hx:RSl S vs xs) (hm:xs.length≤100):
  Ac prog 29 [vs] w fun v w'=>v=.int .i64 (Nk xs)∧St S M w':=by
 unfold Ac;obtain ⟨R,hR⟩:∃ R,Nk xs=R:=⟨_,rfl⟩
 rw [hR];have HR:=Lib.hid hR;clear hR;go_enter func29,ntmps29;repeat' (first|(apply O ();go_step)|apply sX ()|fail)
 go_loopw [8] (fun u8 wr=>∃ i:Nat,i≤xs.length∧u8=.int .i64 (i:Int)∧Hid (Nk (xs.drop i)=R)∧St S M wr) (fun v _=>xs.length - (intOf v).toNat)
 case atStart=>exact ⟨0,Nat.zero_le _,rfl,HR,V⟩
 case round =>
  clear V HR;obtain ⟨i,hi,rfl,HR,V⟩:=hrel;by_cases hlt:i < xs.length
  ·have HN:=HR.out;rw [List.drop_eq_getElem_cons hlt,Nk] at HN;obtain ⟨z,hz⟩:∃ z,(xs[i] != 0)=z:=⟨_,rfl⟩
   cases z with
   | true =>
    rw [if_neg (bne_iff_ne.1 hz)] at HN;have HN:=Lib.hid HN;repeat' (first|apply sK ()|(apply O ();go_step)|(apply sN ();intro hI)|(apply sI ();intro v L)|fail)
    go_ret;exact ⟨_,rfl,by rw [← HN.out];rfl,V⟩
   | false =>
    rw [if_pos (bne_eq_false_iff_eq.1 hz)] at HN;have HN:=Lib.hid HN;repeat' (first|apply sK ()|(apply O ();go_step)|(apply sN ();intro hI)|(apply sI ();intro v L)|fail)
    apply SN ()
  ·have HN:=HR.out;rw [List.drop_of_length_le (by omega),Nk] at HN;have HN:=Lib.hid HN;repeat' (first|(apply O ();go_step)|fail)
   go_ret;exact ⟨_,rfl,by rw [← HN.out];rfl,V⟩
theorem f7 {a b} (h:a≠b):Nk [IT a.1 b.1,IT a.2 b.2]=Nw a b:=by
 obtain ⟨a1,a2⟩:=a;obtain ⟨b1,b2⟩:=b;unfold Nw;rw [if_neg h];simp only [Nk,IT];by_cases h1:a1 < b1
 ·simp [h1]
 ·by_cases h2:b1 < a1
  ·simp [h1,h2]
  ·have e:a1=b1:=by omega
   subst e;have h3:a2≠b2:=fun e=>h (by rw [e])
   by_cases h4:a2 < b2
   ·simp [h4]
   ·have h5:a2 > b2:=by omega
    simp [h4,h5]
theorem M9 {S a cs xs} (h:Au a) (t:RL S cs xs):RL S (.int .i64 a::cs) (a::xs):=RL.append (c:=[.int .i64 a]) (xs:=[a]) (RL.one_mk ⟨rfl,h⟩) t
theorem SH (a b):Au (IT a b):=by
 unfold IT Au;split
 ·omega
 ·split<;>omega
instance nm:Key prog 3 Int 1:=LH kr
instance nf:Key prog 57 (Int×Int) 2:=Mx inferInstance kr kr (by decide)
instance nD:EqTy prog 57:=⟨by kernel_rfl,by kernel_rfl,by kernel_rfl⟩
abbrev kV (a:Int×Int):Value:=.agg #[.int .i64 a.1,.int .i64 a.2]
theorem Nj {S M} (w) (V:St S M w) (c1) (x:TP) (h1:Z.R S c1 x) (c2) (y:TP) (h2:Z.R S c2 y):
  Ac prog 28 [.agg c1.toArray,.agg c2.toArray] w fun v w'=>v=.int .i64 (Nw (kP x.x) (kP y.x))∧St S M w':=by
 unfold Ac;replace h1:Z.R S c1 x.x:=h1;replace h2:Z.R S c2 y.x:=h2;obtain ⟨x,tx⟩:=x;obtain ⟨y,ty⟩:=y;simp only at h1 h2 ⊢;have hb1:=h1;have hb2:=h2;obtain ⟨sx,rfl,hx0,hx1,hx2,hx3⟩:=CK h1;obtain ⟨sy,rfl,hy0,hy1,hy2,hy3⟩:=CK h2;clear h1 h2;obtain ⟨R,hR⟩:∃ R,Nw (kP x) (kP y)=R:=⟨_,rfl⟩
 rw [hR];have HR:=Lib.hid hR;clear hR;go_enter func28,ntmps28;repeat' ((apply ZZ 1);first|(apply O ();go_step)|(apply sB ();clear V;intro bx w V)|fail)
 obtain ⟨S1,hS1,hst1,hpy⟩:=AC (α:=Pn) V hb2 rfl;generalize Value.pointer (some ⟨bx,0,none⟩)=pY at *;clear V;rename Nat=>bz
 obtain ⟨S2,hS2,V,hpx⟩:=AC (α:=Pn) hst1 (Z.mono hS1 hb1) rfl;clear hst1 hb1 hb2;replace hpy:=Pt.mono hS2 hpy;generalize Value.pointer (some ⟨bx,0,none⟩)=pX at *;have cX:=fun {S':Ad} {M:List J} (w:World) (V:St S' M w) (cl:List Value) (hR:Z.R S' cl x)=>Dx w V cl x hR
 have cY:=fun {S':Ad} {M:List J} (w:World) (V:St S' M w) (cl:List Value) (hR:Z.R S' cl y)=>Dx w V cl y hR
 go_cut [5,6] from 7 (fun u5 u6 wr=>∃ b5 b6:Nat,u5=.pointer (some ⟨b5,0,none⟩)∧u6=.pointer (some ⟨b6,0,none⟩)∧St S2 (.box b5 [.int .i64 x.1,.int .i64 x.2.1] 57::.box b6 [.int .i64 y.1,.int .i64 y.2.1] 57::M) wr)
 case first =>
  refine Bm V kr ?_;clear V;intro w V;have hSS:=Cn V;apply nW ();refine px 0 rfl (Aw (y:=x) X hpx Y) ?_;rintro v0 ⟨c0,rfl,hc0⟩;refine px 2 rfl (Aw (y:=y) X hpy Y) ?_;rintro v2 ⟨c2,rfl,hc2⟩;refine P3 1 4 5 rfl rfl rfl kr ?_ ?_ ?_;intro K G;refine sc (cX w V c0 (Z.mono hSS hc0)) ?_;clear V;rintro v1 w ⟨rfl,V⟩;refine pn G ?_;clear G K;refine P3 3 4 5 rfl rfl rfl kr ?_ ?_ ?_;intro K G;refine sc (cY w V c2 (Z.mono hSS hc2)) ?_;clear V;rintro v3 w ⟨rfl,V⟩;refine pn G ?_;clear G K;refine Cp 4 5 rfl rfl kr ?_ ?_;intro K G;refine BF V Y ?_;clear V;intro b4 w V;(try replace V:=nH V);refine pn G ?_;clear G K;refine po 5 rfl ?_;intro K G;refine BF V Y ?_;clear V;intro b5 w V;(try replace V:=nH V);refine pn G ?_;clear G K;refine po 6 rfl ?_;intro K G;(refine Ax V rfl _ N.h Y X rfl A3 A2 (by simp<;>omega) ?_);clear V;intro w V;(try replace V:=nH V);refine pn G ?_;clear G K;refine po 7 rfl ?_;intro K G;(refine Ax V rfl _ N.h Y X rfl A3 A2 (by simp<;>omega) ?_);clear V;intro w V;(try replace V:=nH V);refine pn G ?_;clear G K;refine AK kr ?_;rotate_left;intro K G;refine BF V Y ?_;clear V;intro b5 w V;(try replace V:=nH V);refine pn G ?_;clear G K;refine po 4 rfl ?_;intro K G;refine BF V Y ?_;clear V;intro b4 w V;(try replace V:=nH V);refine pn G ?_;clear G K
  refine po 6 rfl ?_;intro K G;(refine Ax V rfl _ N.h Y X rfl A3 A2 (by simp<;>omega) ?_);clear V;intro w V;(try replace V:=nH V);refine pn G ?_;clear G K;refine po 7 rfl ?_;intro K G;(refine Ax V rfl _ N.h Y X rfl A3 A2 (by simp<;>omega) ?_);clear V;intro w V;(try replace V:=nH V);refine pn G ?_;clear G K;refine AK kr ?_;rotate_left;intro K G;refine BF V Y ?_;clear V;intro b4 w V;(try replace V:=nH V);refine pn G ?_;clear G K;refine Cp 3 5 rfl rfl kr ?_ ?_;intro K G;refine sc (cY w V c2 (Z.mono hSS hc2)) ?_;clear V;rintro v3 w ⟨rfl,V⟩;refine pn G ?_;clear G K;refine po 5 rfl ?_;intro K G;refine BF V Y ?_;clear V;intro b5 w V;(try replace V:=nH V);refine pn G ?_;clear G K;refine po 6 rfl ?_;intro K G;(refine Ax V rfl _ N.h Y X rfl A3 A2 (by simp<;>omega) ?_);clear V;intro w V;(try replace V:=nH V);refine pn G ?_;clear G K;refine po 7 rfl ?_;intro K G;(refine Ax V rfl _ N.h Y X rfl A3 A2 (by simp<;>omega) ?_);clear V;intro w V;(try replace V:=nH V);refine pn G ?_;clear G K;refine AK kr ?_;rotate_left;intro K G;refine BF V Y ?_;clear V;intro b5 w V;(try replace V:=nH V);refine pn G ?_;clear G K;refine po 3 rfl ?_;intro K G;refine sc (cY w V c2 (Z.mono hSS hc2)) ?_;clear V;rintro v3 w ⟨rfl,V⟩;refine pn G ?_;clear G K
  refine po 6 rfl ?_;intro K G;(refine Ax V rfl _ N.h Y X rfl A3 A2 (by simp<;>omega) ?_);clear V;intro w V;(try replace V:=nH V);refine pn G ?_;clear G K;refine po 7 rfl ?_;intro K G;(refine Ax V rfl _ N.h Y X rfl A3 A2 (by simp<;>omega) ?_);clear V;intro w V;(try replace V:=nH V);refine pn G ?_;clear G K;refine AK kr ?_;rotate_left;intro K G;refine BF V Y ?_;clear V;intro b5 w V;(try replace V:=nH V);refine pn G ?_;clear G K;refine Cp 3 4 rfl rfl kr ?_ ?_;intro K G;refine sc (cY w V c2 (Z.mono hSS hc2)) ?_;clear V;rintro v3 w ⟨rfl,V⟩;refine pn G ?_;clear G K;refine po 4 rfl ?_;intro K G;refine BF V Y ?_;clear V;intro b4 w V;(try replace V:=nH V);refine pn G ?_;clear G K;refine po 6 rfl ?_;intro K G;(refine Ax V rfl _ N.h Y X rfl A3 A2 (by simp<;>omega) ?_);clear V;intro w V;(try replace V:=nH V);refine pn G ?_;clear G K;refine po 7 rfl ?_;intro K G;(refine Ax V rfl _ N.h Y X rfl A3 A2 (by simp<;>omega) ?_);clear V;intro w V;(try replace V:=nH V);refine pn G ?_;clear G K;refine AK kr ?_;rotate_left;intro K G;refine BF V Y ?_;clear V;intro b4 w V;(try replace V:=nH V);refine pn G ?_;clear G K;refine po 3 rfl ?_;intro K G;refine sc (cY w V c2 (Z.mono hSS hc2)) ?_;clear V;rintro v3 w ⟨rfl,V⟩;refine pn G ?_;clear G K
  refine po 6 rfl ?_;intro K G;(refine Ax V rfl _ N.h Y X rfl A3 A2 (by simp<;>omega) ?_);clear V;intro w V;(try replace V:=nH V);refine pn G ?_;clear G K;refine po 7 rfl ?_;intro K G;(refine Ax V rfl _ N.h Y X rfl A3 A2 (by simp<;>omega) ?_);clear V;intro w V;(try replace V:=nH V);refine pn G ?_;clear G K;refine AK kr ?_;rotate_left;intro K G;refine BF V Y ?_;clear V;intro b4 w V;(try replace V:=nH V);refine pn G ?_;clear G K;refine Cp 1 5 rfl rfl kr ?_ ?_;intro K G;refine sc (cX w V c0 (Z.mono hSS hc0)) ?_;clear V;rintro v1 w ⟨rfl,V⟩;refine pn G ?_;clear G K;refine Cp 3 5 rfl rfl kr ?_ ?_;intro K G;refine sc (cY w V c2 (Z.mono hSS hc2)) ?_;clear V;rintro v3 w ⟨rfl,V⟩;refine pn G ?_;clear G K;refine po 5 rfl ?_;intro K G;refine BF V Y ?_;clear V;intro b5 w V;(try replace V:=nH V);refine pn G ?_;clear G K;refine po 6 rfl ?_;intro K G;(refine Ax V rfl _ N.h Y X rfl A3 A2 (by simp<;>omega) ?_);clear V;intro w V;(try replace V:=nH V);refine pn G ?_;clear G K;refine po 7 rfl ?_;intro K G;(refine Ax V rfl _ N.h Y X rfl A3 A2 (by simp<;>omega) ?_);clear V;intro w V;(try replace V:=nH V);refine pn G ?_;clear G K;refine AK kr ?_;rotate_left;intro K G;refine BF V Y ?_;clear V;intro b5 w V;(try replace V:=nH V);refine pn G ?_;clear G K
  refine po 3 rfl ?_;intro K G;refine sc (cY w V c2 (Z.mono hSS hc2)) ?_;clear V;rintro v3 w ⟨rfl,V⟩;refine pn G ?_;clear G K;refine po 6 rfl ?_;intro K G;(refine Ax V rfl _ N.h Y X rfl A3 A2 (by simp<;>omega) ?_);clear V;intro w V;(try replace V:=nH V);refine pn G ?_;clear G K;refine po 7 rfl ?_;intro K G;(refine Ax V rfl _ N.h Y X rfl A3 A2 (by simp<;>omega) ?_);clear V;intro w V;(try replace V:=nH V);refine pn G ?_;clear G K;refine AK kr ?_;rotate_left;intro K G;refine BF V Y ?_;clear V;intro b5 w V;(try replace V:=nH V);refine pn G ?_;clear G K;refine po 1 rfl ?_;intro K G;refine sc (cX w V c0 (Z.mono hSS hc0)) ?_;clear V;rintro v1 w ⟨rfl,V⟩;refine pn G ?_;clear G K;refine po 3 rfl ?_;intro K G;refine sc (cY w V c2 (Z.mono hSS hc2)) ?_;clear V;rintro v3 w ⟨rfl,V⟩;refine pn G ?_;clear G K;refine po 6 rfl ?_;intro K G;(refine Ax V rfl _ N.h Y X rfl A3 A2 (by simp<;>omega) ?_);clear V;intro w V;(try replace V:=nH V);refine pn G ?_;clear G K;refine po 7 rfl ?_;intro K G;(refine Ax V rfl _ N.h Y X rfl A3 A2 (by simp<;>omega) ?_);clear V;intro w V;(try replace V:=nH V);refine pn G ?_;clear G K;refine AK kr ?_;rotate_left;intro K G;refine BF V Y ?_;clear V;intro b5 w V;(try replace V:=nH V);refine pn G ?_;clear G K;refine Cp 1 4 rfl rfl kr ?_ ?_
  intro K G;refine sc (cX w V c0 (Z.mono hSS hc0)) ?_;clear V;rintro v1 w ⟨rfl,V⟩;refine pn G ?_;clear G K;refine Cp 3 4 rfl rfl kr ?_ ?_;intro K G;refine sc (cY w V c2 (Z.mono hSS hc2)) ?_;clear V;rintro v3 w ⟨rfl,V⟩;refine pn G ?_;clear G K;refine po 4 rfl ?_;intro K G;refine BF V Y ?_;clear V;intro b4 w V;(try replace V:=nH V);refine pn G ?_;clear G K;refine po 6 rfl ?_;intro K G;(refine Ax V rfl _ N.h Y X rfl A3 A2 (by simp<;>omega) ?_);clear V;intro w V;(try replace V:=nH V);refine pn G ?_;clear G K;refine po 7 rfl ?_;intro K G;(refine Ax V rfl _ N.h Y X rfl A3 A2 (by simp<;>omega) ?_);clear V;intro w V;(try replace V:=nH V);refine pn G ?_;clear G K;refine AK kr ?_;rotate_left;intro K G;refine BF V Y ?_;clear V;intro b4 w V;(try replace V:=nH V);refine pn G ?_;clear G K;refine po 3 rfl ?_;intro K G;refine sc (cY w V c2 (Z.mono hSS hc2)) ?_;clear V;rintro v3 w ⟨rfl,V⟩;refine pn G ?_;clear G K;refine po 6 rfl ?_;intro K G;(refine Ax V rfl _ N.h Y X rfl A3 A2 (by simp<;>omega) ?_);clear V;intro w V;(try replace V:=nH V);refine pn G ?_;clear G K;refine po 7 rfl ?_;intro K G;(refine Ax V rfl _ N.h Y X rfl A3 A2 (by simp<;>omega) ?_);clear V;intro w V;(try replace V:=nH V);refine pn G ?_;clear G K;refine AK kr ?_;rotate_left;intro K G;refine BF V Y ?_;clear V;intro b4 w V;(try replace V:=nH V);refine pn G ?_;clear G K
  refine po 1 rfl ?_;intro K G;refine sc (cX w V c0 (Z.mono hSS hc0)) ?_;clear V;rintro v1 w ⟨rfl,V⟩;refine pn G ?_;clear G K;refine po 3 rfl ?_;intro K G;refine sc (cY w V c2 (Z.mono hSS hc2)) ?_;clear V;rintro v3 w ⟨rfl,V⟩;refine pn G ?_;clear G K;refine po 6 rfl ?_;intro K G;(refine Ax V rfl _ N.h Y X rfl A3 A2 (by simp<;>omega) ?_);clear V;intro w V;(try replace V:=nH V);refine pn G ?_;clear G K;refine po 7 rfl ?_;intro K G;(refine Ax V rfl _ N.h Y X rfl A3 A2 (by simp<;>omega) ?_);clear V;intro w V;(try replace V:=nH V);refine pn G ?_;clear G K;refine AK kr ?_;rotate_left
  all_goals
   repeat' (first|(apply O ();go_step)|fail)
   go_meet
   case rel=>first|exact ⟨_,_,rfl,rfl,V⟩|exact ⟨_,_,rfl,rfl,V.move (k:=1) rfl⟩
 case rest =>
  obtain ⟨b5,b6,rfl,rfl,V⟩:=hcut;by_cases he:((x.1,x.2.1):Int×Int)=(y.1,y.2.1)
  ·have hz:Hid ((0:Int)=R):=Lib.hid (((Zg (kP x) (kP y)).2 he).symm.trans HR.out);have hdc:decide (((x.1,x.2.1):Int×Int)=(y.1,y.2.1))=true:=decide_eq_true he;clear he;go_step;repeat' (first|(apply tB ();refine Ag V (I9 rfl rfl (Df hx1 hx2) (Df hy1 hy2) Y Y Y (by assumption)) ?_<;>apply nW ())|(apply O ();go_step)|apply sX ()|fail)
   go_ret;exact ⟨_,rfl,by rw [← hz.out];rfl,St.weaken (hS1.trans hS2) V.drop.drop⟩
  ·have hz:Hid (Nk [IT x.1 y.1,IT x.2.1 y.2.1]=R):=Lib.hid ((f7 (a:=kP x) (b:=kP y) he).trans HR.out);have cA:=fun {S':Ad} {M:List J} (w:World) (V:St S' M w)=>Pe w V x.1 y.1
   have cB:=fun {S':Ad} {M:List J} (w:World) (V:St S' M w)=>Pe w V x.2.1 y.2.1
   have i1:=SH x.1 y.1;have i2:=SH x.2.1 y.2.1;generalize IT x.1 y.1=r1 at *;generalize IT x.2.1 y.2.1=r2 at *;clear cX cY HR;have hdc:decide (((x.1,x.2.1):Int×Int)=(y.1,y.2.1))=false:=decide_eq_false he;clear he;go_step;repeat' ((apply ZZ 4);first|(apply tB ();refine Ag V (I9 rfl rfl (Df hx1 hx2) (Df hy1 hy2) Y Y Y (by assumption)) ?_<;>apply nW ())|(apply O ();go_step)|apply sX ()|fail)
   obtain ⟨S3,hS3,hst3,hpa⟩:=AC (α:=Int×Int) V (Df hx1 hx2) rfl;clear V;obtain ⟨S4,hS4,V,hpb⟩:=AC (α:=Int×Int) hst3 (Df hy1 hy2) rfl;clear hst3;replace hpa:=Pt.mono hS4 hpa;generalize Value.pointer (some ⟨b5,0,none⟩)=pA at *;generalize Value.pointer (some ⟨b6,0,none⟩)=pB at *;refine Bm V kr ?_;clear V;intro w V;have hSS:=Cn V;apply nW ();refine px 0 rfl (Nf X hpa rfl Y Y) ?_;rintro v0 hp0;refine px 1 rfl (Am X hp0 Y) ?_;rintro v1 ⟨rfl,hI1⟩;refine px 2 rfl (Nf X hpb rfl Y Y) ?_;rintro v2 hp2;refine px 3 rfl (Am X hp2 Y) ?_;rintro v3 ⟨rfl,hI3⟩;refine px 5 rfl (Nc X hpa rfl Y Y) ?_;rintro v5 hp5;refine px 6 rfl (Am X hp5 Y) ?_;rintro v6 ⟨rfl,hI6⟩;refine px 7 rfl (Nc X hpb rfl Y Y) ?_;rintro v7 hp7;refine px 8 rfl (Am X hp7 Y) ?_;rintro v8 ⟨rfl,hI8⟩;refine po 4 rfl ?_;intro K G;refine sc (cA w V) ?_;clear V;rintro v4 w ⟨rfl,V⟩;refine pn G ?_;clear G K;refine po 9 rfl ?_;intro K G;refine sc (cB w V) ?_;clear V;rintro v9 w ⟨rfl,V⟩;refine pn G ?_;clear G K;refine po 10 rfl ?_;intro K G;refine Ay (vs:=[.int .i64 r1,.int .i64 r2]) V Y Y rfl rfl (by simp [Value.cells]) rfl (by omega) (by omega) ?_;clear V;intro x10 w hst0;obtain ⟨S7,hS7,V,hX7⟩:=St.freeze (α:=Int) (xs:=[r1,r2]) hst0 (M9 i1 (M9 i2 RL.nil)) rfl;clear hst0;(try replace V:=nH V);replace hSS:=hSS.trans hS7;refine pn G ?_;clear G K
   refine po 11 rfl ?_;intro K G;refine sc (lw w V _ _ hX7 (by show 2≤100;omega)) ?_;clear V;rintro v11 w ⟨rfl,V⟩;refine pn G ?_;clear G K;refine pd 12 rfl ?_;refine AK kr ?_;repeat' (first|(apply O ();go_step)|fail)
   go_ret;exact ⟨_,rfl,by rw [← hz.out];rfl,St.weaken (hS1.trans (hS2.trans (hS3.trans (hS4.trans hSS)))) V⟩
theorem getD_some {α:Type} {d} {xs:List α} {i} (h:i < xs.length):xs[i]? = some (xs.getD i d):=by
 rw [List.getElem?_eq_getElem h,D3 h]
theorem Sb {i j:Nat} (h:j≤i):Value.int .i64 ((i:Int) - (j:Int))=.int .i64 ((i - j:Nat):Int):=by rw [Int.ofNat_sub h]
theorem U8 {xs ys} {a b n:Int} {a' b' n':Nat} (h:Jq AI xs ys a.toNat b.toNat n.toNat) (h1:a=a') (h2:b=b') (h3:n=n'):Jq AI xs ys a' b' n':=by
 subst h1;subst h2;subst h3
 simpa using h
abbrev ME:Value:=.func (.func 28) #[] #[]
theorem aO {S M} (w v Nqq xs) (hN:xs.length=Nqq) (c) (V:St S (.sl v 63 4 Nqq c::M) w) (hR:RL S c xs) (a b n:Nat) (hab:a+n≤b) (hb:b+n≤Nqq) (hx:Nqq≤1000000):
  Ac prog 143 [v,.int .i64 a,.int .i64 b,.int .i64 n,ME] w fun _ w'=>∃ c' ys,RL S c' ys∧Jq AI xs ys a b n∧St S (.sl v 63 4 Nqq c'::M) w':=by
 unfold Ac;have hone:=Go.Sl.AY V;have HN:=Lib.hid hN;clear hN;go_enter func143,ntmps143;repeat' (first|(apply O ();go_step)|fail)
 go_loopw [10] (fun v10 wr=>∃ (i:Nat) (c':List Value) (ys:List TP),i≤n∧v10=.int .i64 i∧RL S c' ys∧Hid (Jq AI xs ys a b i)∧St S (.sl v 63 4 Nqq c'::M) wr) (fun v _=>n - (intOf v).toNat)
 case atStart=>exact ⟨0,c,xs,Nat.zero_le _,rfl,hR,Lib.hid (XL xs a b),V⟩
 case round =>
  clear V hR;obtain ⟨i,c',ys,hi,rfl,hR,hS,V⟩:=hrel;by_cases hlt:i < n
  ·have hyl:ys.length=Nqq:=hS.out.1.length_eq.trans HN.out;have hia:a+i < ys.length:=by omega
   have hib:b+i < ys.length:=by omega
   have gA:=getD_some (d:=AI) hia;have gB:=getD_some (d:=AI) hib;have ea:((a:Int)+(i:Int)).toNat=a+i:=by omega
   have eb:((b:Int)+(i:Int)).toNat=b+i:=by omega
   have hnx:=Lib.hid (XM hS.out (show a+i < b by omega) (show b+i < xs.length by rw [HN.out];omega));obtain ⟨ca,hca⟩:∃ cs,Z.R S cs (ys.getD (a+i) AI):=⟨_,hR.2 _ _ gA⟩
   clear hca ca;have hyl:=Lib.hid hyl;repeat' ((apply ZZ 3);first|(apply O ();go_step)|fail)
   refine AD V kr ?_;clear V;intro ops;apply nW ();refine td 0 rfl ?_;refine td 1 rfl ?_;refine td 2 rfl ?_;refine tq 3 rfl (by exact DC rfl rfl Af) ?_;(refine ED 4 rfl kr rfl rfl (fun _ _=>by exact Dn X) ?_)<;>apply nW ()
   (refine ED 5 rfl kr rfl rfl (fun _ _=>by exact Dn X) ?_)<;>apply nW ()
   (refine ED 6 rfl kr rfl rfl (fun _ _=>by exact Dn X) ?_)<;>apply nW ()
   (refine ED 7 rfl kr rfl rfl (fun _ _=>by exact DC rfl rfl Af) ?_)<;>apply nW ()
   refine td 8 rfl ?_;refine td 9 rfl ?_;refine td 10 rfl ?_;refine tq 11 rfl (by exact DC rfl rfl Af) ?_
   ((refine BN 12 rfl kr rfl rfl (fun w V=>Ao V X SlIn.h rfl Y Y Af Af ) ?_;rintro  v12 hp12;rw [eb] at hp12))<;>apply nW ()
   refine tx 13 rfl (BZ (j:=b+i) X hp12 SlIn.h hR Y gB) ?_;rintro v13 ⟨cb,rfl,hcb⟩;refine td 14 rfl ?_;refine td 15 rfl ?_;refine td 16 rfl ?_;refine tq 17 rfl (by exact DC rfl rfl Af) ?_
   ((refine BN 18 rfl kr rfl rfl (fun w V=>Ao V X SlIn.h rfl Y Y Af Af ) ?_;rintro  v18 hp18;rw [ea] at hp18))<;>apply nW ()
   refine tx 19 rfl (BZ (j:=a+i) X hp18 SlIn.h hR Y gA) ?_;rintro v19 ⟨ca,rfl,hca⟩
   ((refine BN 20 rfl kr rfl rfl (fun w V=>Ao V X SlIn.h rfl Y Y Af Af ) ?_;rintro  v20 hp20;rw [ea] at hp20))<;>apply nW ()
   refine AP 21 rfl kr ?_;intro w V K G;refine BV (u:=.agg cb.toArray) (cs:=cb) V X hp20 SlIn.h Y X rfl (Z.len hcb) (List.all_eq_true.2 (Z.one hcb)) (RL.at_len hR hia) ?_;clear V;intro w V;apply nW ();(try replace V:=nH V);refine Bb G V ?_;clear V G K;(try clear w);apply nW ()
   ((refine BN 22 rfl kr rfl rfl (fun w V=>Ao V X SlIn.h rfl Y Y Af Af ) ?_;rintro  v22 hp22;rw [eb] at hp22))<;>apply nW ()
   refine AP 23 rfl kr ?_;intro w V K G;refine BV (u:=.agg ca.toArray) (cs:=ca) V X hp22 SlIn.h Y X rfl (Z.len hca) (List.all_eq_true.2 (Z.one hca)) (RL.at_len (RL.set hR hcb hia) (by simpa using hib)) ?_;clear V;intro w V;apply nW ();(try replace V:=nH V);refine Bb G V ?_;clear V G K;(try clear w);apply nW ();refine AJ kr ?_;clear ops;intro w V;have hq:=RL.set (RL.set hR hcb hia) hca (show b+i < (ys.set (a+i) (ys.getD (b+i) AI)).length by simpa using hib);repeat' (first|(apply O ();go_step)|fail)
   go_roundw
   case rel=>exact ⟨i+1,_,_,by omega,by go_num,hq,hnx,V⟩
   case measure=>simp [intOf];omega
  ·obtain rfl:i=n:=by omega
   repeat' (first|(apply O ();go_step)|fail)
   go_end0
   exact ⟨_,rfl,c',ys,hR,hS.out,V⟩
theorem Ml {S M} (w v Nqq xs) (hN:xs.length=Nqq) (c) (V:St S (.sl v 63 4 Nqq c::M) w) (hR:RL S c xs) (a b n:Int) (ha:0≤a) (hn:0≤n) (hab:a+n≤b) (hb:b+n≤Nqq) (hx:Nqq≤1000000):
  Ac prog 143 [v,.int .i64 a,.int .i64 b,.int .i64 n,ME] w fun _ w'=>∃ c' ys,RL S c' ys∧Jq AI xs ys a.toNat b.toNat n.toNat∧St S (.sl v 63 4 Nqq c'::M) w':=by
 obtain ⟨a,rfl⟩:=Int.eq_ofNat_of_zero_le ha;obtain ⟨n,rfl⟩:=Int.eq_ofNat_of_zero_le hn;obtain ⟨b,rfl⟩:=Int.eq_ofNat_of_zero_le (show 0≤b by omega);exact aO w v Nqq xs hN c V hR a b n (by omega) (by omega) hx
theorem Yp {S M} (w v Nqq xs) (hN:xs.length=Nqq) (c) (V:St S (.sl v 63 4 Nqq c::M) w) (hR:RL S c xs) (a m b) (ham:a < m) (hmb:m < b) (hb:b≤Nqq) (hx:Nqq≤1000000):
  Ac prog 132 [v,.int .i64 a,.int .i64 m,.int .i64 b,ME] w fun _ w'=>∃ c' ys,RL S c' ys∧GK AI xs ys a m b∧St S (.sl v 63 4 Nqq c'::M) w':=by
 unfold Ac;have hone:=Go.Sl.AY V;have HN:=Lib.hid hN;clear hN;have h0:=Lib.hid (TC (d:=AI) xs (Nat.le_of_lt ham) (Nat.le_of_lt hmb));obtain ⟨i0,hi0,ei⟩:∃ i:Nat,i=m - a∧((m:Int) - (a:Int))=(i:Int):=⟨m - a,rfl,by omega⟩
 obtain ⟨j0,hj0,ej⟩:∃ j:Nat,j=b - m∧((b:Int) - (m:Int))=(j:Int):=⟨b - m,rfl,by omega⟩
 rw [← hi0,← hj0] at h0;have b1:0 < i0∧i0+a≤m:=by omega
 have b2:0 < j0∧j0+m≤b:=by omega
 clear hi0 hj0;go_enter func132,ntmps132;repeat' (first|(apply O ();go_step)|fail)
 clear ei ej
 go_loopw [10,11] (fun v10 v11 wr=>∃ (i j:Nat) (c':List Value) (ys:List TP),(0 < i∧i+a≤m)∧(0 < j∧j+m≤b)∧v10=.int .i64 i∧v11=.int .i64 j∧RL S c' ys∧Hid (MN AI xs ys a m b i j)∧St S (.sl v 63 4 Nqq c'::M) wr) (fun v v2 _=>(intOf v).toNat+(intOf v2).toNat)
 case atStart=>exact ⟨i0,j0,c,xs,b1,b2,rfl,rfl,hR,h0,V⟩
 case round =>
  clear V hR h0;obtain ⟨i,j,c',ys,k1,k2,rfl,rfl,hR,hI,V⟩:=hrel;have hyl:ys.length=Nqq:=hI.out.1.length_eq.trans HN.out;by_cases hij:i=j
  ·subst hij;have hE:=Lib.hid (fun zs (hs:Jq AI ys zs (m - i) m i)=>Yr hI.out hs (by omega));repeat' (first|(apply tB ();refine Ag V (CY rfl rfl) ?_<;>apply nW ())|(apply O ();go_step)|(apply kc ();refine sc (Ml _ v Nqq ys hyl c' V hR ((m:Int) - (i:Int)) m i (by omega) (by omega) (by omega) (by omega) hx) ?_;clear V;rintro v w ⟨c2,zs,hR2,hS2,V⟩)|fail)
   go_end0
   exact ⟨_,rfl,c2,zs,hR2,hE.out zs (by rwa [show ((m:Int) - (i:Int)).toNat=m - i by omega] at hS2),V⟩
  ·have g1:((i:Int) != (j:Int))=true:=bne_iff_ne.2 (by omega);by_cases hgt:j < i
   ·have hE:=Lib.hid (fun zs (hs:Jq AI ys zs (m - i) m j)=>bG hI.out hs hgt (by omega));repeat' (first|apply sK ()|(apply O ();go_step)|(apply kc ();refine sc (Ml _ v Nqq ys hyl c' V hR ((m:Int) - (i:Int)) m j (by omega) (by omega) (by omega) (by omega) hx) ?_;clear V;rintro v w ⟨c2,zs,hR2,hS2,V⟩)|fail)
    go_roundw
    case rel=>exact ⟨i - j,j,c2,zs,by omega,k2,Sb (by omega),rfl,hR2,Lib.hid (hE.out zs (U8 hS2 (by omega) rfl rfl)),V⟩
    case measure=>simp [intOf];omega
   ·have hlt:i < j:=by omega
    have hE:=Lib.hid (fun zs (hs:Jq AI ys zs (m - i) (m+j - i) i)=>bF hI.out hs hlt (by omega));repeat' (first|apply sK ()|(apply O ();go_step)|(apply kc ();refine sc (Ml _ v Nqq ys hyl c' V hR ((m:Int) - (i:Int)) ((m:Int)+(j:Int) - (i:Int)) i (by omega) (by omega) (by omega) (by omega) hx) ?_;clear V;rintro v w ⟨c2,zs,hR2,hS2,V⟩)|fail)
    go_roundw
    case rel=>exact ⟨i,j - i,c2,zs,k1,by omega,rfl,Sb (by omega),hR2,Lib.hid (hE.out zs (U8 hS2 (by omega) (by omega) rfl)),V⟩
    case measure=>simp [intOf];omega
theorem Qe {a j:Nat} (h:a < j):Value.int .i64 ((j:Int) - 1)=.int .i64 ((j - 1:Nat):Int):=by congr 1;omega
theorem Qq {S M} (w v Nqq xs) (hN:xs.length=Nqq) (c) (V:St S (.sl v 63 4 Nqq c::M) w) (hR:RL S c xs) (a b:Nat) (hb:b≤Nqq) (hx:Nqq≤1000000) (ha:a≤1000000) (HS:Hid (DH kP AI xs)):
  Ac prog 93 [v,.int .i64 a,.int .i64 b,ME] w fun _ w'=>∃ c' ys,RL S c' ys∧CD AI a b xs ys∧Bn Cb AI ys a b∧St S (.sl v 63 4 Nqq c'::M) w':=by
 unfold Ac;have hone:=Go.Sl.AY V;have HN:=Lib.hid hN;clear hN;go_enter func93,ntmps93;repeat' (first|(apply O ();go_step)|fail)
 go_loopw [8,9] (fun v8 _ wr=>∃ (i:Nat) (c':List Value) (ys:List TP),(a+1≤i∧(i≤b∨i≤a+1))∧v8=.int .i64 i∧RL S c' ys∧Hid (CD AI a b xs ys∧Bn Cb AI ys a i∧DH kP AI ys)∧St S (.sl v 63 4 Nqq c'::M) wr) (fun v _ _=>b - (intOf v).toNat)
 case atStart=>exact ⟨a+1,c,xs,by omega,by go_num,hR,Lib.hid ⟨CD.refl _ _ _,X1 (Nat.le_refl _),HS.out⟩,V⟩
 case round =>
  clear V hR;obtain ⟨i,c',ys,hi,rfl,hR,hU,V⟩:=hrel;by_cases hlt:i < b
  ·repeat' (first|(apply O ();go_step)|fail)
   go_loopw [9] (fun v9 wr=>∃ (j:Nat) (c':List Value) (ys:List TP),(a≤j∧j≤i)∧v9=.int .i64 j∧RL S c' ys∧Hid (CD AI a b xs ys∧SV Cb AI ys a j (i+1)∧DH kP AI ys)∧St S (.sl v 63 4 Nqq c'::M) wr) (fun v _=>(intOf v).toNat)
   case atStart=>exact ⟨i,c',ys,by omega,rfl,hR,Lib.hid ⟨hU.out.1,Wm hU.out.2.1,hU.out.2.2⟩,V⟩
   case round =>
    clear V hR hU;rename_i c0 ys0;obtain ⟨j,c',ys,hj,rfl,hR,hU,V⟩:=hrel;by_cases hja:a < j
    ·have hyl:ys.length=Nqq:=hU.out.1.len.trans HN.out;have hj0:j < ys.length:=by omega
     have hj1:j - 1 < ys.length:=by omega
     have gA:=getD_some (d:=AI) hj0;have gB:=getD_some (d:=AI) hj1;have eb:((j:Int) - 1).toNat=j - 1:=by omega
     have g0:decide ((a:Int) < (j:Int))=true:=decide_eq_true (by omega);have cC:=fun {S':Ad} {M:List J} (w:World) (hS:S.Le S') (V:St S' M w) (c1 c2:List Value) (h1:Z.R S c1 (ys.getD j AI)) (h2:Z.R S c2 (ys.getD (j - 1) AI))=>Nj w V c1 _ (Z.mono hS h1) c2 _ (Z.mono hS h2)
     obtain ⟨y,gy⟩:∃ y,decide (Cb (ys.getD j AI) (ys.getD (j - 1) AI) < 0)=y:=⟨_,rfl⟩
     have gk:=(hU.out.2.2.lt (show j - 1 < j by omega) hj0).trans gy;have hyl:=Lib.hid hyl
     cases y with
     | true =>
      have hst1:=Lib.hid (Zj DR hU.out.2.1 hja (show j < i+1 by omega) (show i+1≤ys.length by rw [hyl.out];omega) (of_decide_eq_true gy));have hsb:=Lib.hid (hU.out.2.2.swap' (show j - 1+1=j by omega) hj0 (of_decide_eq_true gy));have hup:=Lib.hid (hU.out.1.trans (XJ hj0 hj1 (a:=a) (b:=b) (by omega) (by omega)));repeat' ((apply ZZ 4);first|(apply O ();go_step)|fail)
      refine AD V kr ?_;clear V;intro ops;apply nW ();refine td 0 rfl ?_;refine td 1 rfl ?_;refine tq 2 rfl (Kg rfl rfl g0) ?_;refine td 3 rfl ?_;refine td 4 rfl ?_;refine td 5 rfl ?_;refine td 6 rfl ?_
      (((refine BN 7 rfl kr rfl rfl (fun w V=>Ao V X SlIn.h rfl Y Y Af Af ) ?_;rintro  v7 hp7;simp only [Int.toNat_natCast] at hp7)))<;>apply nW ()
      refine tx 8 rfl (BZ (j:=j) X hp7 SlIn.h hR Y gA) ?_;rintro v8 ⟨c8,rfl,hc8⟩;refine td 9 rfl ?_;refine td 10 rfl ?_;refine tq 11 rfl (by exact DY rfl rfl Af) ?_
      (((refine BN 12 rfl kr rfl rfl (fun w V=>Ao V X SlIn.h rfl Y Y Af Af ) ?_;rintro  v12 hp12;rw [eb] at hp12)))<;>apply nW ()
      refine tx 13 rfl (BZ (j:=j - 1) X hp12 SlIn.h hR Y gB) ?_;rintro v13 ⟨c13,rfl,hc13⟩;(refine Ge 14 rfl kr rfl (fun S' M' w hS hM V=>cC w hS V c8 c13 hc8 hc13) rfl Y rfl rfl ?_)<;>apply nW ()
      refine tq 15 rfl (D6 rfl rfl gk) ?_;refine td 16 rfl ?_;refine AJ kr ?_;clear ops;intro w V;repeat' (first|(apply O ();go_step)|fail)
      refine AD V kr ?_;clear V;intro ops;apply nW ();refine td 0 rfl ?_;refine td 1 rfl ?_;(refine ED 2 rfl kr rfl rfl (fun _ _=>by exact Dn X) ?_)<;>apply nW ()
      (refine ED 3 rfl kr rfl rfl (fun _ _=>by exact Dn X) ?_)<;>apply nW ()
      (refine ED 4 rfl kr rfl rfl (fun _ _=>by exact DY rfl rfl Af) ?_)<;>apply nW ()
      refine td 5 rfl ?_;refine td 6 rfl ?_;refine tq 7 rfl (by exact DY rfl rfl Af) ?_
      ((refine BN 8 rfl kr rfl rfl (fun w V=>Ao V X SlIn.h rfl Y Y Af Af ) ?_;rintro  v8 hq8;rw [eb] at hq8))<;>apply nW ()
      refine tx 9 rfl (BZ (j:=j - 1) X hq8 SlIn.h hR Y gB) ?_;rintro v9 ⟨cb,rfl,hcb⟩;refine td 10 rfl ?_;refine td 11 rfl ?_
      ((refine BN 12 rfl kr rfl rfl (fun w V=>Ao V X SlIn.h rfl Y Y Af Af ) ?_;rintro  v12 hq12;simp only [Int.toNat_natCast] at hq12))<;>apply nW ()
      refine tx 13 rfl (BZ (j:=j) X hq12 SlIn.h hR Y gA) ?_;rintro v13 ⟨ca,rfl,hca⟩
      ((refine BN 14 rfl kr rfl rfl (fun w V=>Ao V X SlIn.h rfl Y Y Af Af ) ?_;rintro  v14 hq14;simp only [Int.toNat_natCast] at hq14))<;>apply nW ()
      refine AP 15 rfl kr ?_;intro w V K G;refine BV (u:=.agg cb.toArray) (cs:=cb) V X hq14 SlIn.h Y X rfl (Z.len hcb) (List.all_eq_true.2 (Z.one hcb)) (RL.at_len hR hj0) ?_;clear V;intro w V;apply nW ();(try replace V:=nH V);refine Bb G V ?_;clear V G K;(try clear w);apply nW ()
      ((refine BN 16 rfl kr rfl rfl (fun w V=>Ao V X SlIn.h rfl Y Y Af Af ) ?_;rintro  v16 hq16;rw [eb] at hq16))<;>apply nW ()
      refine AP 17 rfl kr ?_;intro w V K G;refine BV (u:=.agg ca.toArray) (cs:=ca) V X hq16 SlIn.h Y X rfl (Z.len hca) (List.all_eq_true.2 (Z.one hca)) (RL.at_len (RL.set hR hcb hj0) (by simpa using hj1)) ?_;clear V;intro w V;apply nW ();(try replace V:=nH V);refine Bb G V ?_;clear V G K;(try clear w);apply nW ();refine AJ kr ?_;clear ops;intro w V;have hq:=RL.set (RL.set hR hcb hj0) hca (show j - 1 < (ys.set j (ys.getD (j - 1) AI)).length by simpa using hj1);repeat' (first|(apply O ();go_step)|fail)
      go_roundw
      case rel=>exact ⟨j - 1,_,_,by omega,Qe hja,hq,Lib.hid ⟨hup.out,hst1.out,hsb.out⟩,V⟩
      case measure=>simp [intOf];omega
     | false =>
      have hso:=Lib.hid (dx DR hU.out.2.1 hja (of_decide_eq_false gy));repeat' ((apply ZZ 4);first|(apply O ();go_step)|fail)
      refine AD V kr ?_;clear V;intro ops;apply nW ();refine td 0 rfl ?_;refine td 1 rfl ?_;refine tq 2 rfl (Kg rfl rfl g0) ?_;refine td 3 rfl ?_;refine td 4 rfl ?_;refine td 5 rfl ?_;refine td 6 rfl ?_
      (((refine BN 7 rfl kr rfl rfl (fun w V=>Ao V X SlIn.h rfl Y Y Af Af ) ?_;rintro  v7 hp7;simp only [Int.toNat_natCast] at hp7)))<;>apply nW ()
      refine tx 8 rfl (BZ (j:=j) X hp7 SlIn.h hR Y gA) ?_;rintro v8 ⟨c8,rfl,hc8⟩;refine td 9 rfl ?_;refine td 10 rfl ?_;refine tq 11 rfl (by exact DY rfl rfl Af) ?_
      (((refine BN 12 rfl kr rfl rfl (fun w V=>Ao V X SlIn.h rfl Y Y Af Af ) ?_;rintro  v12 hp12;rw [eb] at hp12)))<;>apply nW ()
      refine tx 13 rfl (BZ (j:=j - 1) X hp12 SlIn.h hR Y gB) ?_;rintro v13 ⟨c13,rfl,hc13⟩;(refine Ge 14 rfl kr rfl (fun S' M' w hS hM V=>cC w hS V c8 c13 hc8 hc13) rfl Y rfl rfl ?_)<;>apply nW ()
      refine tq 15 rfl (D6 rfl rfl gk) ?_;apply jR ()
    ·obtain rfl:j=a:=by omega
     have g0:decide ((j:Int) < (j:Int))=false:=decide_eq_false (by omega);have hso:=Lib.hid (Wl hU.out.2.1);repeat' ((apply ZZ 4);first|(apply O ();go_step)|fail)
     refine AD V kr ?_;clear V;intro ops;apply nW ();refine td 0 rfl ?_;refine td 1 rfl ?_;refine tq 2 rfl (Kg rfl rfl g0) ?_;refine td 3 rfl ?_;refine tz 4 rfl ?_;refine tz 5 rfl ?_;refine tz 6 rfl ?_;refine tz 7 rfl ?_;refine tz 8 rfl ?_;refine tz 9 rfl ?_;refine tz 10 rfl ?_;refine tz 11 rfl ?_;refine tz 12 rfl ?_;refine tz 13 rfl ?_;refine tz 14 rfl ?_;refine tz 15 rfl ?_;apply jR ()
  ·repeat' (first|(apply O ();go_step)|fail)
   go_end0
   exact ⟨_,rfl,c',ys,hR,hU.out.1,X0 hU.out.2.1 (Nat.le_refl _) (by omega),V⟩
end Go.Proofs.YtmmbidoldegemaaGreatDoor
