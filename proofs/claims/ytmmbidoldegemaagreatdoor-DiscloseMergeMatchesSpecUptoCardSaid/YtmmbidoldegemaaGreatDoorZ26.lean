/- Part 27 of the proof that the law of the last part holds; no conditions. -/
import Derived.Test.YtmmbidoldegemaaGreatDoorZ25
set_option linter.unusedSimpArgs false
set_option linter.unusedVariables false
set_option maxRecDepth 8000
set_option maxHeartbeats 8000000
namespace Go.Proofs.YtmmbidoldegemaaGreatDoor
open Go.RowKit Go.Sl
theorem G9 {p:Pg} (hw:DI p) {k:Nat} (hk:k < p.2.1.length) {i:Nat} (hi:i < (p.2.1[k]).2.2.2.1.length):∃ o:Nat,o < k∧(p.2.1[k]).2.2.2.1[i]=(o:Int)∧BB (p.2.1[k]) i=(o:Int):=by
 have e:=BG hk;have N:=hw.nd (k:Int) (by omega) (by omega);obtain ⟨c1,c2,_⟩:=N.ofs i (by rw [e];exact hi);rw [e] at c1 c2
 have e0:BB (p.2.1[k]) i=(p.2.1[k]).2.2.2.1[i]:=by
  unfold BB;rw [List.getD_eq_getElem?_getD,List.getElem?_eq_getElem hi];rfl
 exact ⟨(BB (p.2.1[k]) i).toNat,by omega,by omega,by omega⟩
theorem Tn {p:Pg} (hw:DI p) {k:Nat} (hk:k < p.2.1.length):(Fh (p.2.1[k]).1 (p.2.1[k]).2.2.2.1.length).length=(p.2.1[k]).2.2.2.1.length:=by
 have e:=BG hk;have N:=(hw.nd (k:Int) (by omega) (by omega)).len;rwa [e] at N
theorem fa {p:Pg} (hw:DI p) {k:Nat} (hk:k < p.2.1.length) (h:3≤(p.2.1[k]).1∧(p.2.1[k]).1≤9):(p.2.1[k]).2.2.2.1.length=2:=by
 have:=Tn hw hk;unfold Fh at this;rw [if_pos h] at this;exact this.symm
theorem Ow {p:Pg} (hw:DI p) {k:Nat} (hk:k < p.2.1.length) (h:(p.2.1[k]).1=12):2≤(p.2.1[k]).2.2.2.1.length∧(p.2.1[k]).2.2.2.1.length≤3:=by
 have:=Tn hw hk;unfold Fh at this;rw [if_neg (by omega),if_neg (by omega),if_pos h] at this;split at this
 ·omega
 ·have:2=(p.2.1[k]).2.2.2.1.length:=this;omega
section
variable {p:Pg} {f:Nat} {x:Nd}
theorem iU (h:x.1=7):Ct p f x=(Ey p f (BB x 0) == Ey p f (BB x 1)):=by
 unfold Ct;rw [if_neg (by omega),if_pos h,Bool.eq_iff_iff];simp
theorem iT (h:x.1=10∨x.1=12):Ct p f x=(Ey p f (BB x 0) == 2):=by
 unfold Ct;rw [if_neg (by omega),if_neg (by omega),if_neg (by omega),if_pos h,Bool.eq_iff_iff];simp
theorem iS (h:x.1 < 3∨15≤x.1∨x.1=13):Ct p f x=true:=by
 unfold Ct;rw [if_neg (by omega),if_neg (by omega),if_neg (by omega),if_neg (by omega),if_neg (by omega),if_neg (by omega)]
end
section
variable {S:Ac} {M:List Chunk} {w:World} {si sn:Sv} {p:Pg} {f k:Nat}
theorem Wn (hst:St S M w) (hp:Du S si sn p) (hw:DI p) (hnm:P5 p) (hk:k < p.2.1.length) (hf:p.2.1.length+1≤f) (hv:p.2.1[k].1=7) :
  Ad Tryz.prog 68 [CR si sn p,.int .i64 (k:Int)] w fun v w'=>v=.bool (Ct p f (p.2.1[k]))∧St S M w':=by
 unfold Ad;obtain ⟨R,hR⟩:∃ R,Ct p f (p.2.1[k])=R:=⟨_,rfl⟩
 rw [hR];have hn:=hp.n;have hi:=hp.i;have hln:=hp.ln;have hl:=fa hw hk (by omega);rw [iU (by omega)] at hR;have hl0:0 < (p.2.1[k]).2.2.2.1.length:=by omega
 obtain ⟨o0,a0,b0,d0⟩:=G9 hw hk hl0;have cT0:∀ {S':Ac} {M:List Chunk} (w:World) (hS:S.Le S') (hst:St S' M w),Ad Tryz.prog 111 [CR si sn p,.int .i64 ((p.2.1[k]).2.2.2.1[0])] w fun v w'=>v=.int .i64 (Ey p f (BB (p.2.1[k]) 0))∧St S' M w':=fun w hS hst=>by rw [b0,d0];exact L3 p f w si sn o0 hst (hp.mono hS) hw hnm (by omega) (by omega)
 generalize Ey p f (BB (p.2.1[k]) 0)=t0 at *;have hl1:1 < (p.2.1[k]).2.2.2.1.length:=by omega
 obtain ⟨o1,a1,b1,d1⟩:=G9 hw hk hl1;have cT1:∀ {S':Ac} {M:List Chunk} (w:World) (hS:S.Le S') (hst:St S' M w),Ad Tryz.prog 111 [CR si sn p,.int .i64 ((p.2.1[k]).2.2.2.1[1])] w fun v w'=>v=.int .i64 (Ey p f (BB (p.2.1[k]) 1))∧St S' M w':=fun w hS hst=>by rw [b1,d1];exact L3 p f w si sn o1 hst (hp.mono hS) hw hnm (by omega) (by omega)
 generalize Ey p f (BB (p.2.1[k]) 1)=t1 at *;have e3:(p.2.1[k].1 == 3)=false:=by rw [hv];rfl
 have e4:(p.2.1[k].1 == 4)=false:=by rw [hv];rfl
 have e5:(p.2.1[k].1 == 5)=false:=by rw [hv];rfl
 have e6:(p.2.1[k].1 == 6)=false:=by rw [hv];rfl
 have e7:(p.2.1[k].1 == 7)=true:=by rw [hv];rfl
 have e8:(p.2.1[k].1 == 8)=false:=by rw [hv];rfl
 have e9:(p.2.1[k].1 == 9)=false:=by rw [hv];rfl
 have e10:(p.2.1[k].1 == 10)=false:=by rw [hv];rfl
 have e12:(p.2.1[k].1 == 12)=false:=by rw [hv];rfl
 have e11:(p.2.1[k].1 == 11)=false:=by rw [hv];rfl
 have e14:(p.2.1[k].1 == 14)=false:=by rw [hv];rfl
 obtain ⟨z1,hz1⟩:∃ z,(t0 == t1)=z:=⟨_,rfl⟩
 have HR:Hid (R=z1):=Lib.hid (by rw [← hR,← hz1]);clear hR hv hl b0 b1 d0 d1 hnm hw;go_enter Tryz.func68,Tryz.ntmps68;repeat' ((apply Z1 ());first|(apply gK ();go_step)|(apply sB ();clear hst;intro bx w hst)|fail)
 refine wp_region_lit ?_;repeat' (first|(apply gK ();go_step)|apply sX ()|(apply sD ();intro cl hcl)|(apply sI ();intro v hp)|(apply sA ();clear hst;intro bk w hst)|fail)
 obtain ⟨so,rfl,ho,hI1,hI2,hI3⟩:=BT hcl;clear hcl;rw [show Rep.agg Nd=true from rfl];(try refine nX ?_);repeat' ((apply Z9 ());first|apply sK ()|(apply gK ();go_step)|apply sX ()|(apply sS ();clear hst;intro w hst)|fail)
 refine AF hst kr ?_;clear hst;intro ops;(try refine nX ?_);refine td 0 rfl ?_;refine td 1 rfl ?_;refine td 2 rfl ?_;refine tx 3 rfl (Ao Ab Ak rfl Aa Aa Af Af) ?_;rintro v hp;replace hp:=iN hp;refine tx 4 rfl (Am Ab Ak Aa) ?_;rintro v ⟨rfl,hI⟩;(refine Ba 5 rfl kr rfl (fun S' M' w hS hM hst=>cT0 w hS hst) Aa rfl ?_)<;>(try refine nX ?_)
 refine td 6 rfl ?_;refine td 7 rfl ?_;refine td 8 rfl ?_;refine tx 9 rfl (Ao Ab Ak rfl Aa Aa Af Af) ?_;rintro v hp;replace hp:=iN hp;refine tx 10 rfl (Am Ab Ak Aa) ?_;rintro v ⟨rfl,hI⟩;(refine Ba 11 rfl kr rfl (fun S' M' w hS hM hst=>cT1 w hS hst) Aa rfl ?_)<;>(try refine nX ?_)
 refine tq 12 rfl (C6 rfl rfl hz1) ?_;refine td 13 rfl ?_;apply gF ()
theorem TF (hst:St S M w) (hp:Du S si sn p) (hw:DI p) (hnm:P5 p) (hk:k < p.2.1.length) (hf:p.2.1.length+1≤f) (hv:p.2.1[k].1=12) :
  Ad Tryz.prog 68 [CR si sn p,.int .i64 (k:Int)] w fun v w'=>v=.bool (Ct p f (p.2.1[k]))∧St S M w':=by
 unfold Ad;obtain ⟨R,hR⟩:∃ R,Ct p f (p.2.1[k])=R:=⟨_,rfl⟩
 rw [hR];have hn:=hp.n;have hi:=hp.i;have hln:=hp.ln;have hl:=Ow hw hk hv;rw [iT (by omega)] at hR;have hl0:0 < (p.2.1[k]).2.2.2.1.length:=by omega
 obtain ⟨o0,a0,b0,d0⟩:=G9 hw hk hl0;have cT0:∀ {S':Ac} {M:List Chunk} (w:World) (hS:S.Le S') (hst:St S' M w),Ad Tryz.prog 111 [CR si sn p,.int .i64 ((p.2.1[k]).2.2.2.1[0])] w fun v w'=>v=.int .i64 (Ey p f (BB (p.2.1[k]) 0))∧St S' M w':=fun w hS hst=>by rw [b0,d0];exact L3 p f w si sn o0 hst (hp.mono hS) hw hnm (by omega) (by omega)
 generalize Ey p f (BB (p.2.1[k]) 0)=t0 at *;have e3:(p.2.1[k].1 == 3)=false:=by rw [hv];rfl
 have e4:(p.2.1[k].1 == 4)=false:=by rw [hv];rfl
 have e5:(p.2.1[k].1 == 5)=false:=by rw [hv];rfl
 have e6:(p.2.1[k].1 == 6)=false:=by rw [hv];rfl
 have e7:(p.2.1[k].1 == 7)=false:=by rw [hv];rfl
 have e8:(p.2.1[k].1 == 8)=false:=by rw [hv];rfl
 have e9:(p.2.1[k].1 == 9)=false:=by rw [hv];rfl
 have e10:(p.2.1[k].1 == 10)=false:=by rw [hv];rfl
 have e12:(p.2.1[k].1 == 12)=true:=by rw [hv];rfl
 have e11:(p.2.1[k].1 == 11)=false:=by rw [hv];rfl
 have e14:(p.2.1[k].1 == 14)=false:=by rw [hv];rfl
 obtain ⟨z1,hz1⟩:∃ z,(t0 == 2)=z:=⟨_,rfl⟩
 have HR:Hid (R=z1):=Lib.hid (by rw [← hR,← hz1]);clear hR hv hl b0 d0 hnm hw;go_enter Tryz.func68,Tryz.ntmps68;repeat' ((apply Z1 ());first|(apply gK ();go_step)|(apply sB ();clear hst;intro bx w hst)|fail)
 refine wp_region_lit ?_;repeat' (first|(apply gK ();go_step)|apply sX ()|(apply sD ();intro cl hcl)|(apply sI ();intro v hp)|(apply sA ();clear hst;intro bk w hst)|fail)
 obtain ⟨so,rfl,ho,hI1,hI2,hI3⟩:=BT hcl;clear hcl;rw [show Rep.agg Nd=true from rfl];(try refine nX ?_);repeat' ((apply Lr ());first|apply sK ()|(apply gK ();go_step)|apply sX ()|(apply sS ();clear hst;intro w hst)|fail)
 refine AF hst kr ?_;clear hst;intro ops;(try refine nX ?_);refine td 0 rfl ?_;refine td 1 rfl ?_;refine td 2 rfl ?_;refine tx 3 rfl (Ao Ab Ak rfl Aa Aa Af Af) ?_;rintro v hp;replace hp:=iN hp;refine tx 4 rfl (Am Ab Ak Aa) ?_;rintro v ⟨rfl,hI⟩;(refine Ba 5 rfl kr rfl (fun S' M' w hS hM hst=>cT0 w hS hst) Aa rfl ?_)<;>(try refine nX ?_)
 refine tq 6 rfl (C6 rfl rfl hz1) ?_;refine td 7 rfl ?_;apply gF ()
theorem Qa (hst:St S M w) (hp:Du S si sn p) (hw:DI p) (hnm:P5 p) (hk:k < p.2.1.length) (hf:p.2.1.length+1≤f) (hv:(p.2.1[k].1 < 3∨15≤p.2.1[k].1∨p.2.1[k].1=13)) :
  Ad Tryz.prog 68 [CR si sn p,.int .i64 (k:Int)] w fun v w'=>v=.bool (Ct p f (p.2.1[k]))∧St S M w':=by
 unfold Ad;obtain ⟨R,hR⟩:∃ R,Ct p f (p.2.1[k])=R:=⟨_,rfl⟩
 rw [hR];have hn:=hp.n;have hi:=hp.i;have hln:=hp.ln;rw [iS hv] at hR;have HR:=Lib.hid hR;have e3:(p.2.1[k].1 == 3)=false:=by exact beq_eq_false_iff_ne.2 (by omega)
 have e4:(p.2.1[k].1 == 4)=false:=by exact beq_eq_false_iff_ne.2 (by omega)
 have e5:(p.2.1[k].1 == 5)=false:=by exact beq_eq_false_iff_ne.2 (by omega)
 have e6:(p.2.1[k].1 == 6)=false:=by exact beq_eq_false_iff_ne.2 (by omega)
 have e7:(p.2.1[k].1 == 7)=false:=by exact beq_eq_false_iff_ne.2 (by omega)
 have e8:(p.2.1[k].1 == 8)=false:=by exact beq_eq_false_iff_ne.2 (by omega)
 have e9:(p.2.1[k].1 == 9)=false:=by exact beq_eq_false_iff_ne.2 (by omega)
 have e10:(p.2.1[k].1 == 10)=false:=by exact beq_eq_false_iff_ne.2 (by omega)
 have e12:(p.2.1[k].1 == 12)=false:=by exact beq_eq_false_iff_ne.2 (by omega)
 have e11:(p.2.1[k].1 == 11)=false:=by exact beq_eq_false_iff_ne.2 (by omega)
 have e14:(p.2.1[k].1 == 14)=false:=by exact beq_eq_false_iff_ne.2 (by omega)
 clear hR hv hnm hw;go_enter Tryz.func68,Tryz.ntmps68;repeat' ((apply Z1 ());first|(apply gK ();go_step)|(apply sB ();clear hst;intro bx w hst)|fail)
 refine wp_region_lit ?_;repeat' (first|(apply gK ();go_step)|apply sX ()|(apply sD ();intro cl hcl)|(apply sI ();intro v hp)|(apply sA ();clear hst;intro bk w hst)|fail)
 obtain ⟨so,rfl,ho,hI1,hI2,hI3⟩:=BT hcl;clear hcl;rw [show Rep.agg Nd=true from rfl];(try refine nX ?_);repeat' (first|apply sK ()|(apply gK ();go_step)|apply sX ()|(apply sS ();clear hst;intro w hst)|fail)
 go_ret;exact ⟨_,rfl,by rw [← HR.out];rfl,hst.sub⟩
theorem Zc (hst:St S M w) (hp:Du S si sn p) (hw:DI p) (hnm:P5 p) (hk:k < p.2.1.length) (hf:p.2.1.length+1≤f) :
  Ad Tryz.prog 68 [CR si sn p,.int .i64 (k:Int)] w fun v w'=>v=.bool (Ct p f (p.2.1[k]))∧St S M w':=by
 have hk7:=SG hw hk;by_cases h7:p.2.1[k].1=7
 ·exact Wn hst hp hw hnm hk hf h7
 ·by_cases h12:p.2.1[k].1=12
  ·exact TF hst hp hw hnm hk hf h12
  ·exact Qa hst hp hw hnm hk hf (by omega)
end
def JN (x:Nd):Bool:=!(decide (x.1=1∧¬ (0≤x.2.1∧x.2.1≤65535)) || decide (x.1=13∧¬ (1≤x.2.1∧x.2.1≤8)) || decide (x.1=15∧¬ (1≤x.2.1∧x.2.1≤255)))
def IZ (x:Ip):Bool:=!(decide (x.2.1=1∧¬ (0≤x.2.2.1∧x.2.2.1≤7)) || decide (x.2.1=2∧(¬ (0≤x.2.2.1∧x.2.2.1≤3)∨¬ (1≤x.2.2.2.1∧x.2.2.2.1≤17))) || decide (x.2.1=4∧¬ (1≤x.2.2.2.1∧x.2.2.2.1≤1024)))
theorem ZB (p:Pg):Gt p=(p.2.1.all JN && p.1.all IZ):=rfl
theorem fA {x:Nd} (h:x.1=1):JN x=decide (0≤x.2.1∧x.2.1≤65535):=by unfold JN;rw [Bool.eq_iff_iff];simp [h]
theorem ct {x:Nd} (h:x.1=13):JN x=decide (1≤x.2.1∧x.2.1≤8):=by unfold JN;rw [Bool.eq_iff_iff];simp [h]
theorem cr {x:Nd} (h:x.1=15):JN x=decide (1≤x.2.1∧x.2.1≤255):=by unfold JN;rw [Bool.eq_iff_iff];simp [h]
theorem fy {x:Nd} (h:x.1≠1∧x.1≠13∧x.1≠15):JN x=true:=by unfold JN;simp [h.1,h.2.1,h.2.2]
theorem fE {x:Ip} (h:x.2.1=1):IZ x=decide (0≤x.2.2.1∧x.2.2.1≤7):=by unfold IZ;rw [Bool.eq_iff_iff];simp [h]
theorem fD {x:Ip} (h:x.2.1=2):IZ x=(decide (0≤x.2.2.1∧x.2.2.1≤3) && decide (1≤x.2.2.2.1∧x.2.2.2.1≤17)):=by
 unfold IZ;rw [Bool.eq_iff_iff];simp [h]
theorem fC {x:Ip} (h:x.2.1=4):IZ x=decide (1≤x.2.2.2.1∧x.2.2.2.1≤1024):=by unfold IZ;rw [Bool.eq_iff_iff];simp [h]
theorem fB {x:Ip} (h:x.2.1≠1∧x.2.1≠2∧x.2.1≠4):IZ x=true:=by unfold IZ;simp [h.1,h.2.1,h.2.2]
theorem LT {α:Type} (q:α→Bool) (xs:List α) {i:Nat} (h:i < xs.length):(xs.take (i+1)).all q=((xs.take i).all q && q xs[i]):=by
 rw [List.take_succ_eq_append_getElem h,List.all_append];simp
theorem P0 {α:Type} {q:α→Bool} {xs:List α} {i:Nat} (h:i < xs.length) (hq:q xs[i]=false):xs.all q=false:=by
 rw [List.all_eq_false];exact ⟨xs[i],List.getElem_mem h,by rw [hq];decide⟩
theorem Xb {S M} (w:World) (hst:St S M w) (si sn:Sv) (p:Pg) (hp:Du S si sn p) :
  Ad Tryz.prog 69 [CR si sn p] w fun v w'=>v=.bool (Gt p)∧St S M w':=by
 unfold Ad;have hn:=hp.n;have hi:=hp.i;have hln:=hp.ln;have hli:=hp.li;obtain ⟨R,hR⟩:∃ R,Gt p=R:=⟨_,rfl⟩
 rw [hR];rw [ZB] at hR;have HR:=Lib.hid hR;clear hR hp;generalize hxs:p.1=xs at HR hi hli;generalize hns:p.2.1=ns at HR hn hln;clear hxs hns;have cN:=fun {M:List Chunk} (w:World) (hst:St S M w) (n a b:Int)=>dX w hst n a b
 go_enter Tryz.func69,Tryz.ntmps69;repeat' (first|(apply gK ();go_step)|(apply sB ();clear hst;intro bx w hst)|fail)
 go_loopw [3,4] (fun u3 _ wr=>∃ (i:Nat),i≤ns.length∧u3=.int .i64 (i:Int)∧Hid ((ns.take i).all JN=true)∧St S (.box bx [.slice si.1 si.2.1 si.2.2,.slice sn.1 sn.2.1 sn.2.2,.int .i64 p.2.2.1,.int .i64 p.2.2.2.1] 87::M) wr) (fun v _ _=>ns.length - (intOf v).toNat)
 case atStart=>exact ⟨0,Nat.zero_le _,rfl,Lib.hid rfl,hst⟩
 case round =>
  clear hst;obtain ⟨i,hi2,rfl,HA,hst⟩:=hrel;by_cases hlt:i < ns.length
  ·have hnx:=Lib.hid (LT JN ns hlt);have hno:=fun h=>Lib.hid (P0 (q:=JN) hlt h)
   obtain ⟨X,hX⟩:∃ X,ns[i]=X:=⟨_,rfl⟩
   rw [hX] at hnx hno;repeat' ((apply Z4 ());first|(apply gK ();go_step)|apply sX ()|fail)
   refine wp_region_lit ?_;repeat' (first|(apply gK ();go_step)|apply sX ()|(apply sD ();intro cl hcl)|(apply sI ();intro v hp)|(apply sA ();clear hst;intro bk w hst)|fail)
   rw [hX] at hcl;clear hX;obtain ⟨so,rfl,ho,hI1,hI2,hI3⟩:=BT hcl;clear hcl;rw [show Rep.agg Nd=true from rfl];(try refine nX ?_);by_cases h:X.1=1∨X.1=13∨X.1=15
   ·rcases h with h|h|h
    ·have hq0:=fA h;have c1:=fun {M:List Chunk} (w:World) (hst:St S M w)=>cN w hst X.2.1 0 65535
     generalize decide (0≤X.2.1∧X.2.1≤65535)=z at *;have e1:(X.1 == 1)=true:=by rw [h];rfl
     have e13:(X.1 == 13)=false:=by rw [h];rfl
     have e15:(X.1 == 15)=false:=by rw [h];rfl
     apply b9 ()
    ·have hq0:=ct h;have c1:=fun {M:List Chunk} (w:World) (hst:St S M w)=>cN w hst X.2.1 1 8
     generalize decide (1≤X.2.1∧X.2.1≤8)=z at *;have e1:(X.1 == 1)=false:=by rw [h];rfl
     have e13:(X.1 == 13)=true:=by rw [h];rfl
     have e15:(X.1 == 15)=false:=by rw [h];rfl
     apply b9 ()
    ·have hq0:=cr h;have c1:=fun {M:List Chunk} (w:World) (hst:St S M w)=>cN w hst X.2.1 1 255
     generalize decide (1≤X.2.1∧X.2.1≤255)=z at *;have e1:(X.1 == 1)=false:=by rw [h];rfl
     have e13:(X.1 == 13)=false:=by rw [h];rfl
     have e15:(X.1 == 15)=true:=by rw [h];rfl
     apply b9 ()
   ·have hq:=fy (x:=X) (by omega);have e1:(X.1 == 1)=false:=by exact beq_eq_false_iff_ne.2 (by omega)
    have e13:(X.1 == 13)=false:=by exact beq_eq_false_iff_ne.2 (by omega)
    have e15:(X.1 == 15)=false:=by exact beq_eq_false_iff_ne.2 (by omega)
    clear h cN;repeat' (first|apply sK ()|apply sG ()|(apply gK ();go_step)|apply sX ()|(apply sS ();clear hst;intro w hst)|fail)
    apply PX ()
  ·have HF:=HA.out;rw [List.take_of_length_le (by omega)] at HF;have HE:=HR.out;rw [HF,Bool.true_and] at HE;replace HE:=Lib.hid HE;clear HR HF HA;repeat' (first|(apply gK ();go_step)|apply sX ()|fail)
   go_loopw [5,6] (fun u5 _ wr=>∃ (i:Nat),i≤xs.length∧u5=.int .i64 (i:Int)∧Hid ((xs.take i).all IZ=true)∧St S (.box bx [.slice si.1 si.2.1 si.2.2,.slice sn.1 sn.2.1 sn.2.2,.int .i64 p.2.2.1,.int .i64 p.2.2.2.1] 87::M) wr) (fun v _ _=>xs.length - (intOf v).toNat)
   case atStart=>exact ⟨0,Nat.zero_le _,rfl,Lib.hid rfl,hst⟩
   case round =>
    clear hst;rename_i i0 hlt0;obtain ⟨i,hi3,rfl,HA,hst⟩:=hrel;by_cases hlt:i < xs.length
    ·have hnx:=Lib.hid (LT IZ xs hlt);have hno:=fun h=>Lib.hid (P0 (q:=IZ) hlt h)
     by_cases h:xs[i].2.1=1∨xs[i].2.1=2∨xs[i].2.1=4
     ·rcases h with h|h|h
      ·have hq0:=fE h;have c1:=fun {M:List Chunk} (w:World) (hst:St S M w)=>cN w hst xs[i].2.2.1 0 7
       generalize decide (0≤xs[i].2.2.1∧xs[i].2.2.1≤7)=z at *;have e1:(xs[i].2.1 == 1)=true:=by rw [h];rfl
       have e2:(xs[i].2.1 == 2)=false:=by rw [h];rfl
       have e4:(xs[i].2.1 == 4)=false:=by rw [h];rfl
       clear h cN
       cases z with
       | false =>
        have HF:=hno hq0;apply iu ()
       | true =>
        have hq:=hq0;repeat' (first|apply sK ()|apply sG ()|(apply gK ();go_step)|(apply kc ();refine sc (c1 _ hst) ?_;clear hst;rintro v w ⟨rfl,hst⟩)|apply sX ()|apply sP ()|(apply sI ();intro v hp)|(apply sS ();clear hst;intro w hst)|(apply sA ();clear hst;intro bk w hst)|fail)
        apply PX ()
      ·have hq0:=fD h;have c1:=fun {M:List Chunk} (w:World) (hst:St S M w)=>cN w hst xs[i].2.2.1 0 3
       have c2:=fun {M:List Chunk} (w:World) (hst:St S M w)=>cN w hst xs[i].2.2.2.1 1 17
       generalize decide (0≤xs[i].2.2.1∧xs[i].2.2.1≤3)=z at *;generalize decide (1≤xs[i].2.2.2.1∧xs[i].2.2.2.1≤17)=z2 at *;have e1:(xs[i].2.1 == 1)=false:=by rw [h];rfl
       have e2:(xs[i].2.1 == 2)=true:=by rw [h];rfl
       have e4:(xs[i].2.1 == 4)=false:=by rw [h];rfl
       clear h cN
       cases z with
       | false =>
        have HF:=hno (by rw [hq0];rfl);apply iu ()
       | true =>
        cases z2 with
        | false =>
         have HF:=hno (by rw [hq0];rfl);clear hq0;repeat' (first|apply sK ()|apply sG ()|(apply gK ();go_step)|(apply kc ();refine sc (c1 _ hst) ?_;clear hst;rintro v w ⟨rfl,hst⟩)|(apply kc ();refine sc (c2 _ hst) ?_;clear hst;rintro v w ⟨rfl,hst⟩)|apply sX ()|apply sP ()|(apply sI ();intro v hp)|(apply sS ();clear hst;intro w hst)|(apply sA ();clear hst;intro bk w hst)|fail)
         go_ret;exact ⟨_,rfl,by rw [← HE.out,HF.out];rfl,hst.sub⟩
        | true =>
         have hq:IZ xs[i]=true:=hq0;clear hq0;repeat' (first|apply sK ()|apply sG ()|(apply gK ();go_step)|(apply kc ();refine sc (c1 _ hst) ?_;clear hst;rintro v w ⟨rfl,hst⟩)|(apply kc ();refine sc (c2 _ hst) ?_;clear hst;rintro v w ⟨rfl,hst⟩)|apply sX ()|apply sP ()|(apply sI ();intro v hp)|(apply sS ();clear hst;intro w hst)|(apply sA ();clear hst;intro bk w hst)|fail)
         apply PX ()
      ·have hq0:=fC h;have c1:=fun {M:List Chunk} (w:World) (hst:St S M w)=>cN w hst xs[i].2.2.2.1 1 1024
       generalize decide (1≤xs[i].2.2.2.1∧xs[i].2.2.2.1≤1024)=z at *;have e1:(xs[i].2.1 == 1)=false:=by rw [h];rfl
       have e2:(xs[i].2.1 == 2)=false:=by rw [h];rfl
       have e4:(xs[i].2.1 == 4)=true:=by rw [h];rfl
       clear h cN
       cases z with
       | false =>
        have HF:=hno hq0;apply iu ()
       | true =>
        have hq:=hq0;repeat' (first|apply sK ()|apply sG ()|(apply gK ();go_step)|(apply kc ();refine sc (c1 _ hst) ?_;clear hst;rintro v w ⟨rfl,hst⟩)|apply sX ()|apply sP ()|(apply sI ();intro v hp)|(apply sS ();clear hst;intro w hst)|(apply sA ();clear hst;intro bk w hst)|fail)
        apply PX ()
     ·have hq:=fB (x:=xs[i]) (by omega);have e1:(xs[i].2.1 == 1)=false:=by exact beq_eq_false_iff_ne.2 (by omega)
      have e2:(xs[i].2.1 == 2)=false:=by exact beq_eq_false_iff_ne.2 (by omega)
      have e4:(xs[i].2.1 == 4)=false:=by exact beq_eq_false_iff_ne.2 (by omega)
      clear h cN;repeat' (first|apply sK ()|apply sG ()|(apply gK ();go_step)|apply sX ()|apply sP ()|(apply sI ();intro v hp)|(apply sS ();clear hst;intro w hst)|(apply sA ();clear hst;intro bk w hst)|fail)
      apply PX ()
    ·have HF:=HA.out;rw [List.take_of_length_le (by omega),HE.out] at HF;replace HF:=Lib.hid HF;repeat' (first|(apply gK ();go_step)|apply sX ()|fail)
     go_ret;exact ⟨_,rfl,by rw [HF.out];rfl,hst.sub⟩
theorem ET {a b:Int} (ha:0≤a) (hb:0≤b):0≤DR a b∧DR a b≤3001:=by unfold DR;split<;>omega
theorem GT {rec:Int→Int} (h:∀ o,0≤rec o):∀ (os:List Int) (n:Int),0≤n→n≤3001→0≤CZ rec os n∧CZ rec os n≤3001
 | [],n,h1,h2=>⟨h1,h2⟩
 | o::os,n,h1,h2=>by
  rw [CZ];have:=ET h1 (h o);exact GT h os _ this.1 this.2
theorem NH {b:Int} (hb:0≤b):∀ (f:Nat) (n:Int),0≤n→n≤3001→0≤J0 b f n∧J0 b f n≤3001
 | 0,n,h1,h2=>⟨h1,h2⟩
 | f+1,n,h1,h2=>by
  rw [J0];split
  ·have:=ET h1 hb;exact NH hb f _ this.1 this.2
  ·exact ⟨h1,h2⟩
theorem FE (ns:List Nd):∀ (f:Nat) (k:Int),0≤BA ns f k∧BA ns f k≤3001
 | 0,k=>⟨Int.le_refl _,by show (0:Int)≤3001;omega⟩
 | f+1,k=>by
  have i:=fun k=>FE ns f k
  rw [BA];simp only;split
  ·exact GT (fun o=>(i o).1) _ _ (Int.le_refl _) (by omega)
  ·split
   ·have h0:=i (BB (Ax ns k) 0);have h1:=i (BB (Ax ns k) 1);have h2:=i (BB (Ax ns k) 2);have h3:=ET h0.1 (show (0:Int)≤1 by omega);have h4:=ET h1.1 (show (0:Int)≤1 by omega);split
    ·split
     ·exact ET h3.1 h2.1
     ·exact ET h3.1 h4.1
    ·exact ET h3.1 h1.1
   ·split
    ·have h0:=i (BB (Ax ns k) 0);have h3:=ET h0.1 (show (0:Int)≤1 by omega);exact NH h3.1 _ _ (by omega) (by omega)
    ·exact GT (fun o=>(i o).1) _ _ (by omega) (by omega)
abbrev RN (p:Pg) (f:Nat):Prop:=∀ {S M} (w:World) (si sn:Sv) (k:Nat),St S M w→Du S si sn p→DI p→k < p.2.1.length→k+1≤f →
  Ad Tryz.prog 114 [CR si sn p,.int .i64 (k:Int)] w fun v w'=>v=.int .i64 (BA p.2.1 f k)∧St S M w'
theorem IS (rec:Int→Int):∀ (os:List Int) (n:Int) (o:Int),CZ rec (os++[o]) n=DR (CZ rec os n) (rec o)
 | [],n,o=>rfl
 | x::os,n,o=>by rw [List.cons_append,CZ,CZ];exact IS rec os _ o
section
variable {S:Ac} {M:List Chunk} {w:World} {si sn:Sv} {p:Pg} {f k:Nat}
theorem Yj (ih:RN p f) (hst:St S M w) (hp:Du S si sn p) (hw:DI p) (hk:k < p.2.1.length) (hf:k+1≤f+1) (hv:(p.2.1[k]).1=17) :
  Ad Tryz.prog 114 [CR si sn p,.int .i64 (k:Int)] w fun v w'=>v=.int .i64 (BA p.2.1 (f+1) k)∧St S M w':=by
 unfold Ad;obtain ⟨R,hR⟩:∃ R,BA p.2.1 (f+1) k=R:=⟨_,rfl⟩
 rw [hR];rw [BA,BG hk] at hR;simp only at hR;have hn:=hp.n;have hi:=hp.i;have hln:=hp.ln;rw [if_pos hv] at hR;have hol:=hp.lo _ (List.getElem_mem hk)
 have cC:∀ (i:Nat) (hi:i < (p.2.1[k]).2.2.2.1.length) {S':Ac} {M:List Chunk} (w:World) (hS:S.Le S') (hst:St S' M w),Ad Tryz.prog 114 [CR si sn p,.int .i64 ((p.2.1[k]).2.2.2.1[i])] w fun v w'=>v=.int .i64 (BA p.2.1 f ((p.2.1[k]).2.2.2.1[i]))∧St S' M w':=fun i hi S' M w hS hst=>by
  apply gt ()
 have e17:(p.2.1[k].1 == 17)=true:=by rw [hv];rfl
 have HR:=Lib.hid hR;have hb:=FE p.2.1 f;generalize BA p.2.1 f=rec at *;clear hR hv;go_enter Tryz.func114,Tryz.ntmps114;repeat' ((apply Z1 ());first|(apply gK ();go_step)|(apply sB ();clear hst;intro bx w hst)|fail)
 refine wp_region_lit ?_;repeat' (first|(apply gK ();go_step)|apply sX ()|(apply sD ();intro cl hcl)|(apply sI ();intro v hp)|(apply sA ();clear hst;intro bk w hst)|fail)
 obtain ⟨so,rfl,ho,hI1,hI2,hI3⟩:=BT hcl;clear hcl;rw [show Rep.agg Nd=true from rfl];(try refine nX ?_);repeat' ((apply Z4 ());first|apply sK ()|(apply gK ();go_step)|apply sX ()|(apply sS ();clear hst;intro w hst)|fail)
 repeat' (first|(apply gK ();go_step)|fail)
 generalize hos:(p.2.1[k]).2.2.2.1=os at *;clear hos
 go_loopw [6,7] (fun u6 u7 wr=>∃ (i:Nat),i≤os.length∧u6=.int .i64 (CZ rec (os.take i) 0)∧u7=.int .i64 (i:Int)∧St S (.box bk [.int .i64 (p.2.1[k]).1,.int .i64 (p.2.1[k]).2.1,.string ⟨(p.2.1[k]).2.2.1.b.toArray⟩,.slice so.1 so.2.1 so.2.2] 139::.box bx [.slice si.1 si.2.1 si.2.2,.slice sn.1 sn.2.1 sn.2.2,.int .i64 p.2.2.1,.int .i64 p.2.2.2.1] 87::M) wr) (fun _ v _=>os.length - (intOf v).toNat)
 case atStart=>exact ⟨0,Nat.zero_le _,rfl,rfl,hst⟩
 case round =>
  clear hst;obtain ⟨i,hi2,rfl,rfl,hst⟩:=hrel;by_cases hlt:i < os.length
  ·have hsn:=Lib.hid (show DR (CZ rec (os.take i) 0) (rec os[i])=CZ rec (os.take (i+1)) 0 by rw [List.take_succ_eq_append_getElem hlt,IS]);have h1:=GT (fun o=>(hb o).1) (os.take i) 0 (by omega) (by omega);have h2:=hb os[i];have cC2:=fun {S':Ac} {M:List Chunk} (w:World) (hS:S.Le S') (hst:St S' M w)=>cC i hlt w hS hst
   generalize CZ rec (os.take i) 0=n at *;generalize rec os[i]=r at *;have cA:=fun {S':Ac} {M:List Chunk} (w:World) (hst:St S' M w)=>Ja w hst n r (by omega) (by omega)
   generalize DR n r=q at *;repeat' ((apply Z8 ());first|(apply gK ();go_step)|apply sX ()|fail)
   apply iy ()
  apply gQ ()
theorem Tc (ih:RN p f) (hst:St S M w) (hp:Du S si sn p) (hw:DI p) (hk:k < p.2.1.length) (hf:k+1≤f+1) (hv:(p.2.1[k]).1≠17∧(p.2.1[k]).1≠12∧(p.2.1[k]).1≠13) :
  Ad Tryz.prog 114 [CR si sn p,.int .i64 (k:Int)] w fun v w'=>v=.int .i64 (BA p.2.1 (f+1) k)∧St S M w':=by
 unfold Ad;obtain ⟨R,hR⟩:∃ R,BA p.2.1 (f+1) k=R:=⟨_,rfl⟩
 rw [hR];rw [BA,BG hk] at hR;simp only at hR;have hn:=hp.n;have hi:=hp.i;have hln:=hp.ln;rw [if_neg hv.1,if_neg hv.2.1,if_neg hv.2.2] at hR;have hol:=hp.lo _ (List.getElem_mem hk)
 have cC:∀ (i:Nat) (hi:i < (p.2.1[k]).2.2.2.1.length) {S':Ac} {M:List Chunk} (w:World) (hS:S.Le S') (hst:St S' M w),Ad Tryz.prog 114 [CR si sn p,.int .i64 ((p.2.1[k]).2.2.2.1[i])] w fun v w'=>v=.int .i64 (BA p.2.1 f ((p.2.1[k]).2.2.2.1[i]))∧St S' M w':=fun i hi S' M w hS hst=>by
  apply gt ()
 have e17:(p.2.1[k].1 == 17)=false:=beq_eq_false_iff_ne.2 (by omega);have e12:(p.2.1[k].1 == 12)=false:=beq_eq_false_iff_ne.2 (by omega);have e13:(p.2.1[k].1 == 13)=false:=beq_eq_false_iff_ne.2 (by omega);have HR:=Lib.hid hR;have hb:=FE p.2.1 f;generalize BA p.2.1 f=rec at *;clear hR hv;go_enter Tryz.func114,Tryz.ntmps114;repeat' ((apply Z1 ());first|(apply gK ();go_step)|(apply sB ();clear hst;intro bx w hst)|fail)
 refine wp_region_lit ?_;repeat' (first|(apply gK ();go_step)|apply sX ()|(apply sD ();intro cl hcl)|(apply sI ();intro v hp)|(apply sA ();clear hst;intro bk w hst)|fail)
 obtain ⟨so,rfl,ho,hI1,hI2,hI3⟩:=BT hcl;clear hcl;rw [show Rep.agg Nd=true from rfl];(try refine nX ?_);repeat' ((apply lG ());first|apply sK ()|(apply gK ();go_step)|apply sX ()|(apply sS ();clear hst;intro w hst)|fail)
 repeat' (first|(apply gK ();go_step)|fail)
 generalize hos:(p.2.1[k]).2.2.2.1=os at *;clear hos
 go_loopw [13,14] (fun u6 u7 wr=>∃ (i:Nat),i≤os.length∧u6=.int .i64 (CZ rec (os.take i) 1)∧u7=.int .i64 (i:Int)∧St S (.box bk [.int .i64 (p.2.1[k]).1,.int .i64 (p.2.1[k]).2.1,.string ⟨(p.2.1[k]).2.2.1.b.toArray⟩,.slice so.1 so.2.1 so.2.2] 139::.box bx [.slice si.1 si.2.1 si.2.2,.slice sn.1 sn.2.1 sn.2.2,.int .i64 p.2.2.1,.int .i64 p.2.2.2.1] 87::M) wr) (fun _ v _=>os.length - (intOf v).toNat)
 case atStart=>exact ⟨0,Nat.zero_le _,rfl,rfl,hst⟩
 case round =>
  clear hst;obtain ⟨i,hi2,rfl,rfl,hst⟩:=hrel;by_cases hlt:i < os.length
  ·have hsn:=Lib.hid (show DR (CZ rec (os.take i) 1) (rec os[i])=CZ rec (os.take (i+1)) 1 by rw [List.take_succ_eq_append_getElem hlt,IS]);have h1:=GT (fun o=>(hb o).1) (os.take i) 1 (by omega) (by omega);have h2:=hb os[i];have cC2:=fun {S':Ac} {M:List Chunk} (w:World) (hS:S.Le S') (hst:St S' M w)=>cC i hlt w hS hst
   generalize CZ rec (os.take i) 1=n at *;generalize rec os[i]=r at *;have cA:=fun {S':Ac} {M:List Chunk} (w:World) (hst:St S' M w)=>Ja w hst n r (by omega) (by omega)
   generalize DR n r=q at *;repeat' ((apply lF ());first|(apply gK ();go_step)|apply sX ()|fail)
   apply iy ()
  apply gQ ()
theorem Yi (ih:RN p f) (hst:St S M w) (hp:Du S si sn p) (hw:DI p) (hk:k < p.2.1.length) (hf:k+1≤f+1) (hv:(p.2.1[k]).1=12) (hv3:¬ (p.2.1[k]).2.2.2.1.length=3) :
  Ad Tryz.prog 114 [CR si sn p,.int .i64 (k:Int)] w fun v w'=>v=.int .i64 (BA p.2.1 (f+1) k)∧St S M w':=by
 unfold Ad;obtain ⟨R,hR⟩:∃ R,BA p.2.1 (f+1) k=R:=⟨_,rfl⟩
 rw [hR];rw [BA,BG hk] at hR;simp only at hR;have hn:=hp.n;have hi:=hp.i;have hln:=hp.ln;rw [if_neg (by omega),if_pos hv] at hR;rw [if_neg hv3] at hR;have hl:=Ow hw hk hv;have hl0:0 < (p.2.1[k]).2.2.2.1.length:=by omega
 obtain ⟨o0,a0,b0,d0⟩:=G9 hw hk hl0;have hc0:=FE p.2.1 f (BB (p.2.1[k]) 0);have cT0:∀ {S':Ac} {M:List Chunk} (w:World) (hS:S.Le S') (hst:St S' M w),Ad Tryz.prog 114 [CR si sn p,.int .i64 ((p.2.1[k]).2.2.2.1[0])] w fun v w'=>v=.int .i64 (BA p.2.1 f (BB (p.2.1[k]) 0))∧St S' M w':=fun w hS hst=>by rw [b0,d0];exact ih w si sn o0 hst (hp.mono hS) hw (by omega) (by omega)
 generalize BA p.2.1 f (BB (p.2.1[k]) 0)=t0 at *;have hl1:1 < (p.2.1[k]).2.2.2.1.length:=by omega
 obtain ⟨o1,a1,b1,d1⟩:=G9 hw hk hl1;have hc1:=FE p.2.1 f (BB (p.2.1[k]) 1);have cT1:∀ {S':Ac} {M:List Chunk} (w:World) (hS:S.Le S') (hst:St S' M w),Ad Tryz.prog 114 [CR si sn p,.int .i64 ((p.2.1[k]).2.2.2.1[1])] w fun v w'=>v=.int .i64 (BA p.2.1 f (BB (p.2.1[k]) 1))∧St S' M w':=fun w hS hst=>by rw [b1,d1];exact ih w si sn o1 hst (hp.mono hS) hw (by omega) (by omega)
 generalize BA p.2.1 f (BB (p.2.1[k]) 1)=t1 at *;have e17:(p.2.1[k].1 == 17)=false:=beq_eq_false_iff_ne.2 (by omega);have e12:(p.2.1[k].1 == 12)=true:=by rw [hv];rfl
 have e3:(((p.2.1[k]).2.2.2.1.length:Int) == 3)=false:=beq_eq_false_iff_ne.2 (by omega);have c0:=fun {S':Ac} {M:List Chunk} (w:World) (hst:St S' M w)=>Ja w hst t0 1 (by omega) (by omega)
 have q0:=ET (a:=t0) (b:=1) (by omega) (by omega);generalize DR t0 1=r0 at *;have c2:=fun {S':Ac} {M:List Chunk} (w:World) (hst:St S' M w)=>Ja w hst r0 t1 (by omega) (by omega)
 rw [hR] at c2;clear hR hv hv3 b0 d0 b1 d1 hl hw;go_enter Tryz.func114,Tryz.ntmps114;repeat' ((apply Z1 ());first|(apply gK ();go_step)|(apply sB ();clear hst;intro bx w hst)|fail)
 refine wp_region_lit ?_;repeat' (first|(apply gK ();go_step)|apply sX ()|(apply sD ();intro cl hcl)|(apply sI ();intro v hp)|(apply sA ();clear hst;intro bk w hst)|fail)
 obtain ⟨so,rfl,ho,hI1,hI2,hI3⟩:=BT hcl;clear hcl;rw [show Rep.agg Nd=true from rfl];(try refine nX ?_);repeat' ((apply MO ());first|apply sK ()|(apply gK ();go_step)|apply sX ()|(apply sS ();clear hst;intro w hst)|fail)
 refine AF hst kr ?_;clear hst;intro ops;(try refine nX ?_);refine td 0 rfl ?_;refine td 1 rfl ?_;refine td 2 rfl ?_;refine tx 3 rfl (Ao Ab Ak rfl Aa Aa Af Af) ?_;rintro v hp;replace hp:=iN hp;refine tx 4 rfl (Am Ab Ak Aa) ?_;rintro v ⟨rfl,hI⟩;(refine Ba 5 rfl kr rfl (fun S' M' w hS hM hst=>cT1 w hS hst) Aa rfl ?_)<;>(try refine nX ?_)
 refine td 6 rfl ?_;refine AK kr ?_;clear ops;intro w hst;repeat' ((apply KB ());first|apply sK ()|(apply gK ();go_step)|apply sX ()|fail)
 refine AF hst kr ?_;clear hst;intro ops;(try refine nX ?_);refine td 0 rfl ?_;refine td 1 rfl ?_;refine td 2 rfl ?_;refine tx 3 rfl (Ao Ab Ak rfl Aa Aa Af Af) ?_;rintro v hp;replace hp:=iN hp;refine tx 4 rfl (Am Ab Ak Aa) ?_;rintro v ⟨rfl,hI⟩;(refine Ba 5 rfl kr rfl (fun S' M' w hS hM hst=>cT0 w hS hst) Aa rfl ?_)<;>(try refine nX ?_)
 (refine Ba 6 rfl kr rfl (fun S' M' w hS hM hst=>c0 w hst) Aa rfl ?_)<;>(try refine nX ?_)
 refine td 7 rfl ?_;(refine Ba 8 rfl kr rfl (fun S' M' w hS hM hst=>c2 w hst) Aa rfl ?_)<;>(try refine nX ?_)
 refine td 9 rfl ?_;apply gE ()
theorem VH (p:Pg) (f:Nat) (ih:RN p f):RN p (f+1):=fun w si sn k hst hp hw hk hf=>by
 have hkd:=SG hw hk;by_cases h1:(p.2.1[k]).1=17
 ·exact Yj ih hst hp hw hk hf h1
 ·by_cases h2:(p.2.1[k]).1=12
  ·exact Yi ih hst hp hw hk hf h2 (by omega)
  ·exact Tc ih hst hp hw hk hf ⟨h1,h2,by omega⟩
theorem VI (p:Pg):∀ f,RN p f
 | 0=>fun w si sn k _ _ _ _ hf=>absurd hf (by omega)
 | f+1=>VH p f (VI p f)
end
end Go.Proofs.YtmmbidoldegemaaGreatDoor
