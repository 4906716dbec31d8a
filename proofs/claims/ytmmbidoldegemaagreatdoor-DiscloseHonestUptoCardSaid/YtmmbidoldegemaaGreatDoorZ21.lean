/- Part 22 of a proof; no conditions. -/
import Derived.Test.YtmmbidoldegemaaGreatDoorZ20
set_option linter.all false
set_option maxRecDepth 8000
set_option maxHeartbeats 8000000
namespace Go.Proofs.YtmmbidoldegemaaGreatDoor
open Go.RowKit Go.Sl Go.Proofs.Tryz
theorem Ch {p} (hw:Cl p) {k} (hk:k < p.2.1.length) {i} (hi:i < (p.2.1[k]).2.2.2.1.length):∃ o:Nat,o < k∧(p.2.1[k]).2.2.2.1[i]=(o:Int)∧AU (p.2.1[k]) i=(o:Int):=by
 have e:=Be hk;have Nqq:=hw.nd (k:Int) (by omega) (by omega);obtain ⟨c1,c2,_⟩:=Nqq.ofs i (by rw [e];exact hi);rw [e] at c1 c2
 have e0:AU (p.2.1[k]) i=(p.2.1[k]).2.2.2.1[i]:=by
  unfold AU;rw [List.getD_eq_getElem?_getD,List.getElem?_eq_getElem hi];rfl
 exact ⟨(AU (p.2.1[k]) i).toNat,by omega,by omega,by omega⟩
theorem LR {p} (hw:Cl p) {k} (hk:k < p.2.1.length):(EW (p.2.1[k]).1 (p.2.1[k]).2.2.2.1.length).length=(p.2.1[k]).2.2.2.1.length:=by
 have e:=Be hk;have Nqq:=(hw.nd (k:Int) (by omega) (by omega)).len;rwa [e] at Nqq
theorem IY {p} (hw:Cl p) {k} (hk:k < p.2.1.length) (h:3≤(p.2.1[k]).1∧(p.2.1[k]).1≤9):(p.2.1[k]).2.2.2.1.length=2:=by
 have:=LR hw hk;unfold EW at this;rw [if_pos h] at this;exact this.symm
theorem NN {p} (hw:Cl p) {k} (hk:k < p.2.1.length) (h:(p.2.1[k]).1=10∨(p.2.1[k]).1=11∨(p.2.1[k]).1=14):(p.2.1[k]).2.2.2.1.length=1:=by
 have:=LR hw hk;unfold EW at this;rw [if_neg (by omega),if_pos h] at this;exact this.symm
theorem NO {p} (hw:Cl p) {k} (hk:k < p.2.1.length) (h:(p.2.1[k]).1=12):2≤(p.2.1[k]).2.2.2.1.length∧(p.2.1[k]).2.2.2.1.length≤3:=by
 have:=LR hw hk;unfold EW at this;rw [if_neg (by omega),if_neg (by omega),if_pos h] at this;split at this
 ·omega
 ·have:2=(p.2.1[k]).2.2.2.1.length:=this;omega
theorem Pa (s:Cv):∀ (l:List Nd) (i:Int) (j:Nat),j < l.length→(l.getD j K4).1=11→(l.getD j K4).2.2.1=s→i≤EL s l i∧EL s l i≤i+j
 | [],i,j,hj,_,_=>absurd hj (by simp)
 | x::r,i,j,hj,h1,h2=>by
  rw [EL];by_cases h:x.1=11∧x.2.2.1=s
  ·rw [if_pos h];omega
  ·rw [if_neg h]
   cases j with
   | zero=>exact absurd ⟨h1,h2⟩ h
   | succ j =>
    have:=Pa s r (i+1) j (by simpa using hj) h1 h2;omega
theorem fW {p} (hw:Cl p) {k} (hk:k < p.2.1.length) (hv:(p.2.1[k]).1=11):
  ∃ q o:Nat,∃ hq:q < p.2.1.length,∃ h0:0 < (p.2.1[q]).2.2.2.1.length,B0 p (p.2.1[k]).2.2.1=q∧q≤k∧o < q∧(p.2.1[q]).2.2.2.1[0]=(o:Int):=by
 have ek:p.2.1.getD k K4=p.2.1[k]:=by rw [List.getD_eq_getElem?_getD,List.getElem?_eq_getElem hk];rfl
 have a:=Pa (p.2.1[k]).2.2.1 p.2.1 0 k hk (by rw [ek];exact hv) (by rw [ek]);obtain ⟨q,b1,b2,b3,b4⟩:=NC (p:=p) (s:=(p.2.1[k]).2.2.1) a.1;have e:=Be b1;rw [e] at b3;have hl:=NN hw b1 (.inr (.inl b3));have h0:0 < (p.2.1[q]).2.2.2.1.length:=by omega
 obtain ⟨o,c1,c2,c3⟩:=Ch hw b1 h0;have a2:B0 p (p.2.1[k]).2.2.1≤0+(k:Int):=a.2;exact ⟨q,o,b1,h0,b2,by omega,c1,c2⟩
section
variable {p:Pg} {f:Nat} {x:Nd}
theorem Td (h:3≤x.1∧x.1≤6):A1 p f x=((A7 p f (AU x 0) == 1) && (A7 p f (AU x 1) == 1)):=by
 unfold A1;rw [if_pos h,Bool.eq_iff_iff];simp
theorem kW (h:x.1=7):A1 p f x=(A7 p f (AU x 0) == A7 p f (AU x 1)):=by
 unfold A1;rw [if_neg (by omega),if_pos h,Bool.eq_iff_iff];simp
theorem eJ (h:x.1=8∨x.1=9):A1 p f x=((A7 p f (AU x 0) == 2) && (A7 p f (AU x 1) == 2)):=by
 unfold A1;rw [if_neg (by omega),if_neg (by omega),if_pos h,Bool.eq_iff_iff];simp
theorem eI (h:x.1=10∨x.1=12):A1 p f x=(A7 p f (AU x 0) == 2):=by
 unfold A1;rw [if_neg (by omega),if_neg (by omega),if_neg (by omega),if_pos h,Bool.eq_iff_iff];simp
theorem kT (h:x.1=11):A1 p f x=(A7 p f (AU x 0) == A7 p f (AU (Az p.2.1 (B0 p x.2.2.1)) 0)):=by
 unfold A1;rw [if_neg (by omega),if_neg (by omega),if_neg (by omega),if_neg (by omega),if_pos h,Bool.eq_iff_iff];simp
theorem kR (h:x.1=14):A1 p f x=(A7 p f (AU x 0) == 1):=by
 unfold A1;rw [if_neg (by omega),if_neg (by omega),if_neg (by omega),if_neg (by omega),if_neg (by omega),if_pos h,Bool.eq_iff_iff];simp
theorem kQ (h:x.1 < 3∨15≤x.1∨x.1=13):A1 p f x=true:=by
 unfold A1;rw [if_neg (by omega),if_neg (by omega),if_neg (by omega),if_neg (by omega),if_neg (by omega),if_neg (by omega)]
end
section
variable {S:Ad} {M:List J} {w:World} {si sn:Sv} {p:Pg} {f k:Nat}
theorem XE (V:St S M w) (L:Cm S si sn p) (hw:Cl p) (hnm:H6 p) (hk:k < p.2.1.length) (hf:p.2.1.length+1≤f) (hv:p.2.1[k].1=3) :
  Ac prog 68 [Bo si sn p,.int .i64 (k:Int)] w fun v w'=>v=.bool (A1 p f (p.2.1[k]))∧St S M w':=by
 unfold Ac;obtain ⟨R,hR⟩:∃ R,A1 p f (p.2.1[k])=R:=⟨_,rfl⟩
 rw [hR];have hn:=L.n;have hi:=L.i;have hln:=L.ln;have hl:=IY hw hk (by omega);rw [Td (by omega)] at hR;have hl0:0 < (p.2.1[k]).2.2.2.1.length:=by omega
 obtain ⟨o0,a0,b0,d0⟩:=Ch hw hk hl0;have cT0:∀ {S':Ad} {M:List J} (w:World) (hS:S.Le S') (V:St S' M w),Ac prog 111 [Bo si sn p,.int .i64 ((p.2.1[k]).2.2.2.1[0])] w fun v w'=>v=.int .i64 (A7 p f (AU (p.2.1[k]) 0))∧St S' M w':=fun w hS V=>by rw [b0,d0];exact CN p f w si sn o0 V (L.mono hS) hw hnm (by omega) (by omega)
 generalize A7 p f (AU (p.2.1[k]) 0)=t0 at *;have hl1:1 < (p.2.1[k]).2.2.2.1.length:=by omega
 obtain ⟨o1,a1,b1,d1⟩:=Ch hw hk hl1;have cT1:∀ {S':Ad} {M:List J} (w:World) (hS:S.Le S') (V:St S' M w),Ac prog 111 [Bo si sn p,.int .i64 ((p.2.1[k]).2.2.2.1[1])] w fun v w'=>v=.int .i64 (A7 p f (AU (p.2.1[k]) 1))∧St S' M w':=fun w hS V=>by rw [b1,d1];exact CN p f w si sn o1 V (L.mono hS) hw hnm (by omega) (by omega)
 generalize A7 p f (AU (p.2.1[k]) 1)=t1 at *;have e3:(p.2.1[k].1 == 3)=true:=by rw [hv];rfl
 have e4:(p.2.1[k].1 == 4)=false:=by rw [hv];rfl
 have e5:(p.2.1[k].1 == 5)=false:=by rw [hv];rfl
 have e6:(p.2.1[k].1 == 6)=false:=by rw [hv];rfl
 apply Go.Sl.b1 ()
theorem XD (V:St S M w) (L:Cm S si sn p) (hw:Cl p) (hnm:H6 p) (hk:k < p.2.1.length) (hf:p.2.1.length+1≤f) (hv:p.2.1[k].1=4) :
  Ac prog 68 [Bo si sn p,.int .i64 (k:Int)] w fun v w'=>v=.bool (A1 p f (p.2.1[k]))∧St S M w':=by
 unfold Ac;obtain ⟨R,hR⟩:∃ R,A1 p f (p.2.1[k])=R:=⟨_,rfl⟩
 rw [hR];have hn:=L.n;have hi:=L.i;have hln:=L.ln;have hl:=IY hw hk (by omega);rw [Td (by omega)] at hR;have hl0:0 < (p.2.1[k]).2.2.2.1.length:=by omega
 obtain ⟨o0,a0,b0,d0⟩:=Ch hw hk hl0;have cT0:∀ {S':Ad} {M:List J} (w:World) (hS:S.Le S') (V:St S' M w),Ac prog 111 [Bo si sn p,.int .i64 ((p.2.1[k]).2.2.2.1[0])] w fun v w'=>v=.int .i64 (A7 p f (AU (p.2.1[k]) 0))∧St S' M w':=fun w hS V=>by rw [b0,d0];exact CN p f w si sn o0 V (L.mono hS) hw hnm (by omega) (by omega)
 generalize A7 p f (AU (p.2.1[k]) 0)=t0 at *;have hl1:1 < (p.2.1[k]).2.2.2.1.length:=by omega
 obtain ⟨o1,a1,b1,d1⟩:=Ch hw hk hl1;have cT1:∀ {S':Ad} {M:List J} (w:World) (hS:S.Le S') (V:St S' M w),Ac prog 111 [Bo si sn p,.int .i64 ((p.2.1[k]).2.2.2.1[1])] w fun v w'=>v=.int .i64 (A7 p f (AU (p.2.1[k]) 1))∧St S' M w':=fun w hS V=>by rw [b1,d1];exact CN p f w si sn o1 V (L.mono hS) hw hnm (by omega) (by omega)
 generalize A7 p f (AU (p.2.1[k]) 1)=t1 at *;have e3:(p.2.1[k].1 == 3)=false:=by rw [hv];rfl
 have e4:(p.2.1[k].1 == 4)=true:=by rw [hv];rfl
 have e5:(p.2.1[k].1 == 5)=false:=by rw [hv];rfl
 have e6:(p.2.1[k].1 == 6)=false:=by rw [hv];rfl
 apply Go.Sl.b1 ()
theorem XC (V:St S M w) (L:Cm S si sn p) (hw:Cl p) (hnm:H6 p) (hk:k < p.2.1.length) (hf:p.2.1.length+1≤f) (hv:p.2.1[k].1=5) :
  Ac prog 68 [Bo si sn p,.int .i64 (k:Int)] w fun v w'=>v=.bool (A1 p f (p.2.1[k]))∧St S M w':=by
 unfold Ac;obtain ⟨R,hR⟩:∃ R,A1 p f (p.2.1[k])=R:=⟨_,rfl⟩
 rw [hR];have hn:=L.n;have hi:=L.i;have hln:=L.ln;have hl:=IY hw hk (by omega);rw [Td (by omega)] at hR;have hl0:0 < (p.2.1[k]).2.2.2.1.length:=by omega
 obtain ⟨o0,a0,b0,d0⟩:=Ch hw hk hl0;have cT0:∀ {S':Ad} {M:List J} (w:World) (hS:S.Le S') (V:St S' M w),Ac prog 111 [Bo si sn p,.int .i64 ((p.2.1[k]).2.2.2.1[0])] w fun v w'=>v=.int .i64 (A7 p f (AU (p.2.1[k]) 0))∧St S' M w':=fun w hS V=>by rw [b0,d0];exact CN p f w si sn o0 V (L.mono hS) hw hnm (by omega) (by omega)
 generalize A7 p f (AU (p.2.1[k]) 0)=t0 at *;have hl1:1 < (p.2.1[k]).2.2.2.1.length:=by omega
 obtain ⟨o1,a1,b1,d1⟩:=Ch hw hk hl1;have cT1:∀ {S':Ad} {M:List J} (w:World) (hS:S.Le S') (V:St S' M w),Ac prog 111 [Bo si sn p,.int .i64 ((p.2.1[k]).2.2.2.1[1])] w fun v w'=>v=.int .i64 (A7 p f (AU (p.2.1[k]) 1))∧St S' M w':=fun w hS V=>by rw [b1,d1];exact CN p f w si sn o1 V (L.mono hS) hw hnm (by omega) (by omega)
 generalize A7 p f (AU (p.2.1[k]) 1)=t1 at *;have e3:(p.2.1[k].1 == 3)=false:=by rw [hv];rfl
 have e4:(p.2.1[k].1 == 4)=false:=by rw [hv];rfl
 have e5:(p.2.1[k].1 == 5)=true:=by rw [hv];rfl
 have e6:(p.2.1[k].1 == 6)=false:=by rw [hv];rfl
 apply Go.Sl.b1 ()
theorem XB (V:St S M w) (L:Cm S si sn p) (hw:Cl p) (hnm:H6 p) (hk:k < p.2.1.length) (hf:p.2.1.length+1≤f) (hv:p.2.1[k].1=6) :
  Ac prog 68 [Bo si sn p,.int .i64 (k:Int)] w fun v w'=>v=.bool (A1 p f (p.2.1[k]))∧St S M w':=by
 unfold Ac;obtain ⟨R,hR⟩:∃ R,A1 p f (p.2.1[k])=R:=⟨_,rfl⟩
 rw [hR];have hn:=L.n;have hi:=L.i;have hln:=L.ln;have hl:=IY hw hk (by omega);rw [Td (by omega)] at hR;have hl0:0 < (p.2.1[k]).2.2.2.1.length:=by omega
 obtain ⟨o0,a0,b0,d0⟩:=Ch hw hk hl0;have cT0:∀ {S':Ad} {M:List J} (w:World) (hS:S.Le S') (V:St S' M w),Ac prog 111 [Bo si sn p,.int .i64 ((p.2.1[k]).2.2.2.1[0])] w fun v w'=>v=.int .i64 (A7 p f (AU (p.2.1[k]) 0))∧St S' M w':=fun w hS V=>by rw [b0,d0];exact CN p f w si sn o0 V (L.mono hS) hw hnm (by omega) (by omega)
 generalize A7 p f (AU (p.2.1[k]) 0)=t0 at *;have hl1:1 < (p.2.1[k]).2.2.2.1.length:=by omega
 obtain ⟨o1,a1,b1,d1⟩:=Ch hw hk hl1;have cT1:∀ {S':Ad} {M:List J} (w:World) (hS:S.Le S') (V:St S' M w),Ac prog 111 [Bo si sn p,.int .i64 ((p.2.1[k]).2.2.2.1[1])] w fun v w'=>v=.int .i64 (A7 p f (AU (p.2.1[k]) 1))∧St S' M w':=fun w hS V=>by rw [b1,d1];exact CN p f w si sn o1 V (L.mono hS) hw hnm (by omega) (by omega)
 generalize A7 p f (AU (p.2.1[k]) 1)=t1 at *;have e3:(p.2.1[k].1 == 3)=false:=by rw [hv];rfl
 have e4:(p.2.1[k].1 == 4)=false:=by rw [hv];rfl
 have e5:(p.2.1[k].1 == 5)=false:=by rw [hv];rfl
 have e6:(p.2.1[k].1 == 6)=true:=by rw [hv];rfl
 apply Go.Sl.b1 ()
theorem Xz (V:St S M w) (L:Cm S si sn p) (hw:Cl p) (hnm:H6 p) (hk:k < p.2.1.length) (hf:p.2.1.length+1≤f) (hv:p.2.1[k].1=8) :
  Ac prog 68 [Bo si sn p,.int .i64 (k:Int)] w fun v w'=>v=.bool (A1 p f (p.2.1[k]))∧St S M w':=by
 unfold Ac;obtain ⟨R,hR⟩:∃ R,A1 p f (p.2.1[k])=R:=⟨_,rfl⟩
 rw [hR];have hn:=L.n;have hi:=L.i;have hln:=L.ln;have hl:=IY hw hk (by omega);rw [eJ (by omega)] at hR;have hl0:0 < (p.2.1[k]).2.2.2.1.length:=by omega
 obtain ⟨o0,a0,b0,d0⟩:=Ch hw hk hl0;have cT0:∀ {S':Ad} {M:List J} (w:World) (hS:S.Le S') (V:St S' M w),Ac prog 111 [Bo si sn p,.int .i64 ((p.2.1[k]).2.2.2.1[0])] w fun v w'=>v=.int .i64 (A7 p f (AU (p.2.1[k]) 0))∧St S' M w':=fun w hS V=>by rw [b0,d0];exact CN p f w si sn o0 V (L.mono hS) hw hnm (by omega) (by omega)
 generalize A7 p f (AU (p.2.1[k]) 0)=t0 at *;have hl1:1 < (p.2.1[k]).2.2.2.1.length:=by omega
 obtain ⟨o1,a1,b1,d1⟩:=Ch hw hk hl1;have cT1:∀ {S':Ad} {M:List J} (w:World) (hS:S.Le S') (V:St S' M w),Ac prog 111 [Bo si sn p,.int .i64 ((p.2.1[k]).2.2.2.1[1])] w fun v w'=>v=.int .i64 (A7 p f (AU (p.2.1[k]) 1))∧St S' M w':=fun w hS V=>by rw [b1,d1];exact CN p f w si sn o1 V (L.mono hS) hw hnm (by omega) (by omega)
 generalize A7 p f (AU (p.2.1[k]) 1)=t1 at *;have e3:(p.2.1[k].1 == 3)=false:=by rw [hv];rfl
 have e4:(p.2.1[k].1 == 4)=false:=by rw [hv];rfl
 have e5:(p.2.1[k].1 == 5)=false:=by rw [hv];rfl
 have e6:(p.2.1[k].1 == 6)=false:=by rw [hv];rfl
 have e7:(p.2.1[k].1 == 7)=false:=by rw [hv];rfl
 have e8:(p.2.1[k].1 == 8)=true:=by rw [hv];rfl
 have e9:(p.2.1[k].1 == 9)=false:=by rw [hv];rfl
 have e10:(p.2.1[k].1 == 10)=false:=by rw [hv];rfl
 have e12:(p.2.1[k].1 == 12)=false:=by rw [hv];rfl
 have e11:(p.2.1[k].1 == 11)=false:=by rw [hv];rfl
 have e14:(p.2.1[k].1 == 14)=false:=by rw [hv];rfl
 obtain ⟨z1,hz1⟩:∃ z,(t0 == 2)=z:=⟨_,rfl⟩
 obtain ⟨z2,hz2⟩:∃ z,(t1 == 2)=z:=⟨_,rfl⟩
 have HR:Hid (R=(z1 && z2)):=Lib.hid (by rw [← hR,← hz1,← hz2]);clear hR hv hl b0 b1 d0 d1 hnm hw;cases z1
 ·go_enter func68,ntmps68;repeat' ((apply ZZ 1);first|(apply O ();go_step)|(apply sB ();clear V;intro bx w V)|fail)
  refine wp_region_lit ?_;repeat' (first|(apply O ();go_step)|apply sX ()|(apply sD ();intro cl hcl)|(apply sI ();intro v L)|(apply sA ();clear V;intro bk w V)|fail)
  obtain ⟨so,rfl,ho,hI1,hI2,hI3⟩:=A5 hcl;clear hcl;rw [show Z.agg Nd=true from rfl];apply nW ();repeat' ((apply ZZ 12);first|apply sK ()|(apply O ();go_step)|apply sX ()|(apply sS ();clear V;intro w V)|fail)
  apply b6 ()
 ·go_enter func68,ntmps68;repeat' ((apply ZZ 1);first|(apply O ();go_step)|(apply sB ();clear V;intro bx w V)|fail)
  refine wp_region_lit ?_;repeat' (first|(apply O ();go_step)|apply sX ()|(apply sD ();intro cl hcl)|(apply sI ();intro v L)|(apply sA ();clear V;intro bk w V)|fail)
  obtain ⟨so,rfl,ho,hI1,hI2,hI3⟩:=A5 hcl;clear hcl;rw [show Z.agg Nd=true from rfl];apply nW ();repeat' ((apply ZZ 12);first|apply sK ()|(apply O ();go_step)|apply sX ()|(apply sS ();clear V;intro w V)|fail)
  apply b4 ()
theorem Xy (V:St S M w) (L:Cm S si sn p) (hw:Cl p) (hnm:H6 p) (hk:k < p.2.1.length) (hf:p.2.1.length+1≤f) (hv:p.2.1[k].1=9) :
  Ac prog 68 [Bo si sn p,.int .i64 (k:Int)] w fun v w'=>v=.bool (A1 p f (p.2.1[k]))∧St S M w':=by
 unfold Ac;obtain ⟨R,hR⟩:∃ R,A1 p f (p.2.1[k])=R:=⟨_,rfl⟩
 rw [hR];have hn:=L.n;have hi:=L.i;have hln:=L.ln;have hl:=IY hw hk (by omega);rw [eJ (by omega)] at hR;have hl0:0 < (p.2.1[k]).2.2.2.1.length:=by omega
 obtain ⟨o0,a0,b0,d0⟩:=Ch hw hk hl0;have cT0:∀ {S':Ad} {M:List J} (w:World) (hS:S.Le S') (V:St S' M w),Ac prog 111 [Bo si sn p,.int .i64 ((p.2.1[k]).2.2.2.1[0])] w fun v w'=>v=.int .i64 (A7 p f (AU (p.2.1[k]) 0))∧St S' M w':=fun w hS V=>by rw [b0,d0];exact CN p f w si sn o0 V (L.mono hS) hw hnm (by omega) (by omega)
 generalize A7 p f (AU (p.2.1[k]) 0)=t0 at *;have hl1:1 < (p.2.1[k]).2.2.2.1.length:=by omega
 obtain ⟨o1,a1,b1,d1⟩:=Ch hw hk hl1;have cT1:∀ {S':Ad} {M:List J} (w:World) (hS:S.Le S') (V:St S' M w),Ac prog 111 [Bo si sn p,.int .i64 ((p.2.1[k]).2.2.2.1[1])] w fun v w'=>v=.int .i64 (A7 p f (AU (p.2.1[k]) 1))∧St S' M w':=fun w hS V=>by rw [b1,d1];exact CN p f w si sn o1 V (L.mono hS) hw hnm (by omega) (by omega)
 generalize A7 p f (AU (p.2.1[k]) 1)=t1 at *;have e3:(p.2.1[k].1 == 3)=false:=by rw [hv];rfl
 have e4:(p.2.1[k].1 == 4)=false:=by rw [hv];rfl
 have e5:(p.2.1[k].1 == 5)=false:=by rw [hv];rfl
 have e6:(p.2.1[k].1 == 6)=false:=by rw [hv];rfl
 have e7:(p.2.1[k].1 == 7)=false:=by rw [hv];rfl
 have e8:(p.2.1[k].1 == 8)=false:=by rw [hv];rfl
 have e9:(p.2.1[k].1 == 9)=true:=by rw [hv];rfl
 have e10:(p.2.1[k].1 == 10)=false:=by rw [hv];rfl
 have e12:(p.2.1[k].1 == 12)=false:=by rw [hv];rfl
 have e11:(p.2.1[k].1 == 11)=false:=by rw [hv];rfl
 have e14:(p.2.1[k].1 == 14)=false:=by rw [hv];rfl
 obtain ⟨z1,hz1⟩:∃ z,(t0 == 2)=z:=⟨_,rfl⟩
 obtain ⟨z2,hz2⟩:∃ z,(t1 == 2)=z:=⟨_,rfl⟩
 have HR:Hid (R=(z1 && z2)):=Lib.hid (by rw [← hR,← hz1,← hz2]);clear hR hv hl b0 b1 d0 d1 hnm hw;cases z1
 ·go_enter func68,ntmps68;repeat' ((apply ZZ 1);first|(apply O ();go_step)|(apply sB ();clear V;intro bx w V)|fail)
  refine wp_region_lit ?_;repeat' (first|(apply O ();go_step)|apply sX ()|(apply sD ();intro cl hcl)|(apply sI ();intro v L)|(apply sA ();clear V;intro bk w V)|fail)
  obtain ⟨so,rfl,ho,hI1,hI2,hI3⟩:=A5 hcl;clear hcl;rw [show Z.agg Nd=true from rfl];apply nW ();repeat' ((apply ZZ 12);first|apply sK ()|(apply O ();go_step)|apply sX ()|(apply sS ();clear V;intro w V)|fail)
  apply b6 ()
 ·go_enter func68,ntmps68;repeat' ((apply ZZ 1);first|(apply O ();go_step)|(apply sB ();clear V;intro bx w V)|fail)
  refine wp_region_lit ?_;repeat' (first|(apply O ();go_step)|apply sX ()|(apply sD ();intro cl hcl)|(apply sI ();intro v L)|(apply sA ();clear V;intro bk w V)|fail)
  obtain ⟨so,rfl,ho,hI1,hI2,hI3⟩:=A5 hcl;clear hcl;rw [show Z.agg Nd=true from rfl];apply nW ();repeat' ((apply ZZ 12);first|apply sK ()|(apply O ();go_step)|apply sX ()|(apply sS ();clear V;intro w V)|fail)
  apply b4 ()
theorem XA (V:St S M w) (L:Cm S si sn p) (hw:Cl p) (hnm:H6 p) (hk:k < p.2.1.length) (hf:p.2.1.length+1≤f) (hv:p.2.1[k].1=7) :
  Ac prog 68 [Bo si sn p,.int .i64 (k:Int)] w fun v w'=>v=.bool (A1 p f (p.2.1[k]))∧St S M w':=by
 unfold Ac;obtain ⟨R,hR⟩:∃ R,A1 p f (p.2.1[k])=R:=⟨_,rfl⟩
 rw [hR];have hn:=L.n;have hi:=L.i;have hln:=L.ln;have hl:=IY hw hk (by omega);rw [kW (by omega)] at hR;have hl0:0 < (p.2.1[k]).2.2.2.1.length:=by omega
 obtain ⟨o0,a0,b0,d0⟩:=Ch hw hk hl0;have cT0:∀ {S':Ad} {M:List J} (w:World) (hS:S.Le S') (V:St S' M w),Ac prog 111 [Bo si sn p,.int .i64 ((p.2.1[k]).2.2.2.1[0])] w fun v w'=>v=.int .i64 (A7 p f (AU (p.2.1[k]) 0))∧St S' M w':=fun w hS V=>by rw [b0,d0];exact CN p f w si sn o0 V (L.mono hS) hw hnm (by omega) (by omega)
 generalize A7 p f (AU (p.2.1[k]) 0)=t0 at *;have hl1:1 < (p.2.1[k]).2.2.2.1.length:=by omega
 obtain ⟨o1,a1,b1,d1⟩:=Ch hw hk hl1;have cT1:∀ {S':Ad} {M:List J} (w:World) (hS:S.Le S') (V:St S' M w),Ac prog 111 [Bo si sn p,.int .i64 ((p.2.1[k]).2.2.2.1[1])] w fun v w'=>v=.int .i64 (A7 p f (AU (p.2.1[k]) 1))∧St S' M w':=fun w hS V=>by rw [b1,d1];exact CN p f w si sn o1 V (L.mono hS) hw hnm (by omega) (by omega)
 generalize A7 p f (AU (p.2.1[k]) 1)=t1 at *;have e3:(p.2.1[k].1 == 3)=false:=by rw [hv];rfl
 have e4:(p.2.1[k].1 == 4)=false:=by rw [hv];rfl
 have e5:(p.2.1[k].1 == 5)=false:=by rw [hv];rfl
 have e6:(p.2.1[k].1 == 6)=false:=by rw [hv];rfl
 have e7:(p.2.1[k].1 == 7)=true:=by rw [hv];rfl
 have e8:(p.2.1[k].1 == 8)=false:=by rw [hv];rfl
 have e9:(p.2.1[k].1 == 9)=false:=by rw [hv];rfl
 have e10:(p.2.1[k].1 == 10)=false:=by rw [hv];rfl
 have e12:(p.2.1[k].1 == 12)=false:=by rw [hv];rfl
 have e11:(p.2.1[k].1 == 11)=false:=by rw [hv];rfl
 have e14:(p.2.1[k].1 == 14)=false:=by rw [hv];rfl
 obtain ⟨z1,hz1⟩:∃ z,(t0 == t1)=z:=⟨_,rfl⟩
 have HR:Hid (R=z1):=Lib.hid (by rw [← hR,← hz1]);clear hR hv hl b0 b1 d0 d1 hnm hw;go_enter func68,ntmps68;repeat' ((apply ZZ 1);first|(apply O ();go_step)|(apply sB ();clear V;intro bx w V)|fail)
 refine wp_region_lit ?_;repeat' (first|(apply O ();go_step)|apply sX ()|(apply sD ();intro cl hcl)|(apply sI ();intro v L)|(apply sA ();clear V;intro bk w V)|fail)
 obtain ⟨so,rfl,ho,hI1,hI2,hI3⟩:=A5 hcl;clear hcl;rw [show Z.agg Nd=true from rfl];apply nW ();repeat' ((apply ZZ 9);first|apply sK ()|(apply O ();go_step)|apply sX ()|(apply sS ();clear V;intro w V)|fail)
 refine AD V kr ?_;clear V;intro ops;apply nW ();refine td 0 rfl ?_;refine td 1 rfl ?_;refine td 2 rfl ?_;refine tx 3 rfl (Aq X Ak rfl Y Y Af Af) ?_;rintro v L;replace L:=iN L;refine tx 4 rfl (Am X Ak Y) ?_;rintro v ⟨rfl,hI⟩;(refine AQ 5 rfl kr rfl (fun S' M' w hS hM V=>cT0 w hS V) Y rfl ?_)<;>apply nW ()
 refine td 6 rfl ?_;refine td 7 rfl ?_;refine td 8 rfl ?_;refine tx 9 rfl (Aq X Ak rfl Y Y Af Af) ?_;rintro v L;replace L:=iN L;refine tx 10 rfl (Am X Ak Y) ?_;rintro v ⟨rfl,hI⟩;(refine AQ 11 rfl kr rfl (fun S' M' w hS hM V=>cT1 w hS V) Y rfl ?_)<;>apply nW ()
 refine tq 12 rfl (Do rfl rfl hz1) ?_;refine td 13 rfl ?_;apply Xc ()
theorem UW (V:St S M w) (L:Cm S si sn p) (hw:Cl p) (hnm:H6 p) (hk:k < p.2.1.length) (hf:p.2.1.length+1≤f) (hv:p.2.1[k].1=10) :
  Ac prog 68 [Bo si sn p,.int .i64 (k:Int)] w fun v w'=>v=.bool (A1 p f (p.2.1[k]))∧St S M w':=by
 unfold Ac;obtain ⟨R,hR⟩:∃ R,A1 p f (p.2.1[k])=R:=⟨_,rfl⟩
 rw [hR];have hn:=L.n;have hi:=L.i;have hln:=L.ln;have hl:=NN hw hk (by omega);rw [eI (by omega)] at hR;have hl0:0 < (p.2.1[k]).2.2.2.1.length:=by omega
 obtain ⟨o0,a0,b0,d0⟩:=Ch hw hk hl0;have cT0:∀ {S':Ad} {M:List J} (w:World) (hS:S.Le S') (V:St S' M w),Ac prog 111 [Bo si sn p,.int .i64 ((p.2.1[k]).2.2.2.1[0])] w fun v w'=>v=.int .i64 (A7 p f (AU (p.2.1[k]) 0))∧St S' M w':=fun w hS V=>by rw [b0,d0];exact CN p f w si sn o0 V (L.mono hS) hw hnm (by omega) (by omega)
 generalize A7 p f (AU (p.2.1[k]) 0)=t0 at *;have e3:(p.2.1[k].1 == 3)=false:=by rw [hv];rfl
 have e4:(p.2.1[k].1 == 4)=false:=by rw [hv];rfl
 have e5:(p.2.1[k].1 == 5)=false:=by rw [hv];rfl
 have e6:(p.2.1[k].1 == 6)=false:=by rw [hv];rfl
 have e7:(p.2.1[k].1 == 7)=false:=by rw [hv];rfl
 have e8:(p.2.1[k].1 == 8)=false:=by rw [hv];rfl
 have e9:(p.2.1[k].1 == 9)=false:=by rw [hv];rfl
 have e10:(p.2.1[k].1 == 10)=true:=by rw [hv];rfl
 have e12:(p.2.1[k].1 == 12)=false:=by rw [hv];rfl
 have e11:(p.2.1[k].1 == 11)=false:=by rw [hv];rfl
 have e14:(p.2.1[k].1 == 14)=false:=by rw [hv];rfl
 obtain ⟨z1,hz1⟩:∃ z,(t0 == 2)=z:=⟨_,rfl⟩
 have HR:Hid (R=z1):=Lib.hid (by rw [← hR,← hz1]);clear hR hv hl b0 d0 hnm hw;go_enter func68,ntmps68;repeat' ((apply ZZ 1);first|(apply O ();go_step)|(apply sB ();clear V;intro bx w V)|fail)
 refine wp_region_lit ?_;repeat' (first|(apply O ();go_step)|apply sX ()|(apply sD ();intro cl hcl)|(apply sI ();intro v L)|(apply sA ();clear V;intro bk w V)|fail)
 obtain ⟨so,rfl,ho,hI1,hI2,hI3⟩:=A5 hcl;clear hcl;rw [show Z.agg Nd=true from rfl];apply nW ();repeat' ((apply ZZ 15);first|apply sK ()|(apply O ();go_step)|apply sX ()|(apply sS ();clear V;intro w V)|fail)
 refine AD V kr ?_;clear V;intro ops;apply nW ();refine td 0 rfl ?_;refine td 1 rfl ?_;refine td 2 rfl ?_;refine tx 3 rfl (Aq X Ak rfl Y Y Af Af) ?_;rintro v L;replace L:=iN L;refine tx 4 rfl (Am X Ak Y) ?_;rintro v ⟨rfl,hI⟩;(refine AQ 5 rfl kr rfl (fun S' M' w hS hM V=>cT0 w hS V) Y rfl ?_)<;>apply nW ()
 refine tq 6 rfl (Do rfl rfl hz1) ?_;refine td 7 rfl ?_;apply Xc ()
theorem UU (V:St S M w) (L:Cm S si sn p) (hw:Cl p) (hnm:H6 p) (hk:k < p.2.1.length) (hf:p.2.1.length+1≤f) (hv:p.2.1[k].1=12) :
  Ac prog 68 [Bo si sn p,.int .i64 (k:Int)] w fun v w'=>v=.bool (A1 p f (p.2.1[k]))∧St S M w':=by
 unfold Ac;obtain ⟨R,hR⟩:∃ R,A1 p f (p.2.1[k])=R:=⟨_,rfl⟩
 rw [hR];have hn:=L.n;have hi:=L.i;have hln:=L.ln;have hl:=NO hw hk hv;rw [eI (by omega)] at hR;have hl0:0 < (p.2.1[k]).2.2.2.1.length:=by omega
 obtain ⟨o0,a0,b0,d0⟩:=Ch hw hk hl0;have cT0:∀ {S':Ad} {M:List J} (w:World) (hS:S.Le S') (V:St S' M w),Ac prog 111 [Bo si sn p,.int .i64 ((p.2.1[k]).2.2.2.1[0])] w fun v w'=>v=.int .i64 (A7 p f (AU (p.2.1[k]) 0))∧St S' M w':=fun w hS V=>by rw [b0,d0];exact CN p f w si sn o0 V (L.mono hS) hw hnm (by omega) (by omega)
 generalize A7 p f (AU (p.2.1[k]) 0)=t0 at *;have e3:(p.2.1[k].1 == 3)=false:=by rw [hv];rfl
 have e4:(p.2.1[k].1 == 4)=false:=by rw [hv];rfl
 have e5:(p.2.1[k].1 == 5)=false:=by rw [hv];rfl
 have e6:(p.2.1[k].1 == 6)=false:=by rw [hv];rfl
 have e7:(p.2.1[k].1 == 7)=false:=by rw [hv];rfl
 have e8:(p.2.1[k].1 == 8)=false:=by rw [hv];rfl
 have e9:(p.2.1[k].1 == 9)=false:=by rw [hv];rfl
 have e10:(p.2.1[k].1 == 10)=false:=by rw [hv];rfl
 have e12:(p.2.1[k].1 == 12)=true:=by rw [hv];rfl
 have e11:(p.2.1[k].1 == 11)=false:=by rw [hv];rfl
 have e14:(p.2.1[k].1 == 14)=false:=by rw [hv];rfl
 obtain ⟨z1,hz1⟩:∃ z,(t0 == 2)=z:=⟨_,rfl⟩
 have HR:Hid (R=z1):=Lib.hid (by rw [← hR,← hz1]);clear hR hv hl b0 d0 hnm hw;go_enter func68,ntmps68;repeat' ((apply ZZ 1);first|(apply O ();go_step)|(apply sB ();clear V;intro bx w V)|fail)
 refine wp_region_lit ?_;repeat' (first|(apply O ();go_step)|apply sX ()|(apply sD ();intro cl hcl)|(apply sI ();intro v L)|(apply sA ();clear V;intro bk w V)|fail)
 obtain ⟨so,rfl,ho,hI1,hI2,hI3⟩:=A5 hcl;clear hcl;rw [show Z.agg Nd=true from rfl];apply nW ();repeat' ((apply ZZ 15);first|apply sK ()|(apply O ();go_step)|apply sX ()|(apply sS ();clear V;intro w V)|fail)
 refine AD V kr ?_;clear V;intro ops;apply nW ();refine td 0 rfl ?_;refine td 1 rfl ?_;refine td 2 rfl ?_;refine tx 3 rfl (Aq X Ak rfl Y Y Af Af) ?_;rintro v L;replace L:=iN L;refine tx 4 rfl (Am X Ak Y) ?_;rintro v ⟨rfl,hI⟩;(refine AQ 5 rfl kr rfl (fun S' M' w hS hM V=>cT0 w hS V) Y rfl ?_)<;>apply nW ()
 refine tq 6 rfl (Do rfl rfl hz1) ?_;refine td 7 rfl ?_;apply Xc ()
theorem UT (V:St S M w) (L:Cm S si sn p) (hw:Cl p) (hnm:H6 p) (hk:k < p.2.1.length) (hf:p.2.1.length+1≤f) (hv:p.2.1[k].1=14) :
  Ac prog 68 [Bo si sn p,.int .i64 (k:Int)] w fun v w'=>v=.bool (A1 p f (p.2.1[k]))∧St S M w':=by
 unfold Ac;obtain ⟨R,hR⟩:∃ R,A1 p f (p.2.1[k])=R:=⟨_,rfl⟩
 rw [hR];have hn:=L.n;have hi:=L.i;have hln:=L.ln;have hl:=NN hw hk (by omega);rw [kR (by omega)] at hR;have hl0:0 < (p.2.1[k]).2.2.2.1.length:=by omega
 obtain ⟨o0,a0,b0,d0⟩:=Ch hw hk hl0;have cT0:∀ {S':Ad} {M:List J} (w:World) (hS:S.Le S') (V:St S' M w),Ac prog 111 [Bo si sn p,.int .i64 ((p.2.1[k]).2.2.2.1[0])] w fun v w'=>v=.int .i64 (A7 p f (AU (p.2.1[k]) 0))∧St S' M w':=fun w hS V=>by rw [b0,d0];exact CN p f w si sn o0 V (L.mono hS) hw hnm (by omega) (by omega)
 generalize A7 p f (AU (p.2.1[k]) 0)=t0 at *;have e3:(p.2.1[k].1 == 3)=false:=by rw [hv];rfl
 have e4:(p.2.1[k].1 == 4)=false:=by rw [hv];rfl
 have e5:(p.2.1[k].1 == 5)=false:=by rw [hv];rfl
 have e6:(p.2.1[k].1 == 6)=false:=by rw [hv];rfl
 have e7:(p.2.1[k].1 == 7)=false:=by rw [hv];rfl
 have e8:(p.2.1[k].1 == 8)=false:=by rw [hv];rfl
 have e9:(p.2.1[k].1 == 9)=false:=by rw [hv];rfl
 have e10:(p.2.1[k].1 == 10)=false:=by rw [hv];rfl
 have e12:(p.2.1[k].1 == 12)=false:=by rw [hv];rfl
 have e11:(p.2.1[k].1 == 11)=false:=by rw [hv];rfl
 have e14:(p.2.1[k].1 == 14)=true:=by rw [hv];rfl
 obtain ⟨z1,hz1⟩:∃ z,(t0 == 1)=z:=⟨_,rfl⟩
 have HR:Hid (R=z1):=Lib.hid (by rw [← hR,← hz1]);clear hR hv hl b0 d0 hnm hw;go_enter func68,ntmps68;repeat' ((apply ZZ 1);first|(apply O ();go_step)|(apply sB ();clear V;intro bx w V)|fail)
 refine wp_region_lit ?_;repeat' (first|(apply O ();go_step)|apply sX ()|(apply sD ();intro cl hcl)|(apply sI ();intro v L)|(apply sA ();clear V;intro bk w V)|fail)
 obtain ⟨so,rfl,ho,hI1,hI2,hI3⟩:=A5 hcl;clear hcl;rw [show Z.agg Nd=true from rfl];apply nW ();repeat' ((apply ZZ 19);first|apply sK ()|(apply O ();go_step)|apply sX ()|(apply sS ();clear V;intro w V)|fail)
 refine AD V kr ?_;clear V;intro ops;apply nW ();refine td 0 rfl ?_;refine td 1 rfl ?_;refine td 2 rfl ?_;refine tx 3 rfl (Aq X Ak rfl Y Y Af Af) ?_;rintro v L;replace L:=iN L;refine tx 4 rfl (Am X Ak Y) ?_;rintro v ⟨rfl,hI⟩;(refine AQ 5 rfl kr rfl (fun S' M' w hS hM V=>cT0 w hS V) Y rfl ?_)<;>apply nW ()
 refine tq 6 rfl (Do rfl rfl hz1) ?_;refine td 7 rfl ?_;apply Xc ()
theorem UV (V:St S M w) (L:Cm S si sn p) (hw:Cl p) (hnm:H6 p) (hk:k < p.2.1.length) (hf:p.2.1.length+1≤f) (hv:p.2.1[k].1=11) :
  Ac prog 68 [Bo si sn p,.int .i64 (k:Int)] w fun v w'=>v=.bool (A1 p f (p.2.1[k]))∧St S M w':=by
 unfold Ac;obtain ⟨R,hR⟩:∃ R,A1 p f (p.2.1[k])=R:=⟨_,rfl⟩
 rw [hR];have hn:=L.n;have hi:=L.i;have hln:=L.ln;have hl:=NN hw hk (by omega);obtain ⟨q,o,hq,h0,e1,hqk,hoq,e2⟩:=fW hw hk hv;rw [kT hv] at hR
 have e3:AU (Az p.2.1 (B0 p (p.2.1[k]).2.2.1)) 0=(o:Int):=by
  unfold AU;rw [e1,Be hq,List.getD_eq_getElem?_getD,List.getElem?_eq_getElem h0,← e2];rfl
 rw [e3] at hR;have cT9:∀ {S':Ad} {M:List J} (w:World) (hS:S.Le S') (V:St S' M w),Ac prog 111 [Bo si sn p,.int .i64 ((p.2.1[q]).2.2.2.1[0])] w fun v w'=>v=.int .i64 (A7 p f (o:Int))∧St S' M w':=fun w hS V=>by rw [e2];exact CN p f w si sn o V (L.mono hS) hw hnm (by omega) (by omega)
 have cF2:=fun {S':Ad} {M:List J} (w:World) (hS:S.Le S') (V:St S' M w)=>LL w V si sn p (L.mono hS) (p.2.1[k]).2.2.1
 rw [e1] at cF2;generalize A7 p f (o:Int)=t9 at *;have hl0:0 < (p.2.1[k]).2.2.2.1.length:=by omega
 obtain ⟨o0,a0,b0,d0⟩:=Ch hw hk hl0;have cT0:∀ {S':Ad} {M:List J} (w:World) (hS:S.Le S') (V:St S' M w),Ac prog 111 [Bo si sn p,.int .i64 ((p.2.1[k]).2.2.2.1[0])] w fun v w'=>v=.int .i64 (A7 p f (AU (p.2.1[k]) 0))∧St S' M w':=fun w hS V=>by rw [b0,d0];exact CN p f w si sn o0 V (L.mono hS) hw hnm (by omega) (by omega)
 generalize A7 p f (AU (p.2.1[k]) 0)=t0 at *;have e3:(p.2.1[k].1 == 3)=false:=by rw [hv];rfl
 have e4:(p.2.1[k].1 == 4)=false:=by rw [hv];rfl
 have e5:(p.2.1[k].1 == 5)=false:=by rw [hv];rfl
 have e6:(p.2.1[k].1 == 6)=false:=by rw [hv];rfl
 have e7:(p.2.1[k].1 == 7)=false:=by rw [hv];rfl
 have e8:(p.2.1[k].1 == 8)=false:=by rw [hv];rfl
 have e9:(p.2.1[k].1 == 9)=false:=by rw [hv];rfl
 have e10:(p.2.1[k].1 == 10)=false:=by rw [hv];rfl
 have e12:(p.2.1[k].1 == 12)=false:=by rw [hv];rfl
 have e11:(p.2.1[k].1 == 11)=true:=by rw [hv];rfl
 have e14:(p.2.1[k].1 == 14)=false:=by rw [hv];rfl
 obtain ⟨z1,hz1⟩:∃ z,(t0 == t9)=z:=⟨_,rfl⟩
 have HR:Hid (R=z1):=Lib.hid (by rw [← hR,← hz1]);clear hR hv hl b0 d0 hnm hw e1 e2 e3;go_enter func68,ntmps68;repeat' ((apply ZZ 1);first|(apply O ();go_step)|(apply sB ();clear V;intro bx w V)|fail)
 refine wp_region_lit ?_;repeat' (first|(apply O ();go_step)|apply sX ()|(apply sD ();intro cl hcl)|(apply sI ();intro v L)|(apply sA ();clear V;intro bk w V)|fail)
 obtain ⟨so,rfl,ho,hI1,hI2,hI3⟩:=A5 hcl;clear hcl;rw [show Z.agg Nd=true from rfl];apply nW ();repeat' ((apply ZZ 17);first|apply sK ()|(apply O ();go_step)|apply sX ()|(apply sS ();clear V;intro w V)|fail)
 refine AD V kr ?_;clear V;intro ops;apply nW ();refine td 0 rfl ?_;refine td 1 rfl ?_;refine td 2 rfl ?_;refine tx 3 rfl (Aq X Ak rfl Y Y Af Af) ?_;rintro v L;replace L:=iN L;refine tx 4 rfl (Am X Ak Y) ?_;rintro v ⟨rfl,hI⟩;(refine AQ 5 rfl kr rfl (fun S' M' w hS hM V=>cT0 w hS V) Y rfl ?_)<;>apply nW ()
 refine td 6 rfl ?_;refine td 7 rfl ?_;refine td 8 rfl ?_;refine td 9 rfl ?_;refine td 10 rfl ?_;refine td 11 rfl ?_;(refine AQ 12 rfl kr rfl (fun S' M' w hS hM V=>cF2 w hS V) Y rfl ?_)<;>apply nW ()
 refine tx 13 rfl (Aq X Ak rfl Y Y Af Af) ?_;rintro v L;replace L:=iN L;refine tx 14 rfl (As X Ak Y Y rfl) ?_;rintro v L;replace L:=iN L;refine tx 15 rfl (Aj X Ak Y) ?_;rintro v ⟨hvl,hv1⟩;refine tx 16 rfl (Aq X Ak rfl Y Y Af Af) ?_;rintro v L;replace L:=iN L;refine tx 17 rfl (Am X Ak Y) ?_;rintro v ⟨rfl,hI⟩;(refine AQ 18 rfl kr rfl (fun S' M' w hS hM V=>cT9 w hS V) Y rfl ?_)<;>apply nW ()
 refine tq 19 rfl (Do rfl rfl hz1) ?_;refine td 20 rfl ?_;apply Xc ()
theorem Rd (V:St S M w) (L:Cm S si sn p) (hw:Cl p) (hnm:H6 p) (hk:k < p.2.1.length) (hf:p.2.1.length+1≤f) (hv:(p.2.1[k].1 < 3∨15≤p.2.1[k].1∨p.2.1[k].1=13)) :
  Ac prog 68 [Bo si sn p,.int .i64 (k:Int)] w fun v w'=>v=.bool (A1 p f (p.2.1[k]))∧St S M w':=by
 unfold Ac;obtain ⟨R,hR⟩:∃ R,A1 p f (p.2.1[k])=R:=⟨_,rfl⟩
 rw [hR];have hn:=L.n;have hi:=L.i;have hln:=L.ln;rw [kQ hv] at hR;have HR:=Lib.hid hR;have e3:(p.2.1[k].1 == 3)=false:=by exact beq_eq_false_iff_ne.2 (by omega)
 have e4:(p.2.1[k].1 == 4)=false:=by exact beq_eq_false_iff_ne.2 (by omega)
 have e5:(p.2.1[k].1 == 5)=false:=by exact beq_eq_false_iff_ne.2 (by omega)
 have e6:(p.2.1[k].1 == 6)=false:=by exact beq_eq_false_iff_ne.2 (by omega)
 have e7:(p.2.1[k].1 == 7)=false:=by exact beq_eq_false_iff_ne.2 (by omega)
 have e8:(p.2.1[k].1 == 8)=false:=by exact beq_eq_false_iff_ne.2 (by omega)
 have e9:(p.2.1[k].1 == 9)=false:=by exact beq_eq_false_iff_ne.2 (by omega)
 have e10:(p.2.1[k].1 == 10)=false:=by exact beq_eq_false_iff_ne.2 (by omega)
 have e12:(p.2.1[k].1 == 12)=false:=by exact beq_eq_false_iff_ne.2 (by omega)
 have e11:(p.2.1[k].1 == 11)=false:=by exact beq_eq_false_iff_ne.2 (by omega)
 have e14:(p.2.1[k].1 == 14)=false:=by exact beq_eq_false_iff_ne.2 (by omega)
 clear hR hv hnm hw;go_enter func68,ntmps68;repeat' ((apply ZZ 1);first|(apply O ();go_step)|(apply sB ();clear V;intro bx w V)|fail)
 refine wp_region_lit ?_;repeat' (first|(apply O ();go_step)|apply sX ()|(apply sD ();intro cl hcl)|(apply sI ();intro v L)|(apply sA ();clear V;intro bk w V)|fail)
 obtain ⟨so,rfl,ho,hI1,hI2,hI3⟩:=A5 hcl;clear hcl;rw [show Z.agg Nd=true from rfl];apply nW ();repeat' (first|apply sK ()|(apply O ();go_step)|apply sX ()|(apply sS ();clear V;intro w V)|fail)
 go_ret;exact ⟨_,rfl,by rw [← HR.out];rfl,V.sub⟩
theorem aM (V:St S M w) (L:Cm S si sn p) (hw:Cl p) (hnm:H6 p) (hk:k < p.2.1.length) (hf:p.2.1.length+1≤f) :
  Ac prog 68 [Bo si sn p,.int .i64 (k:Int)] w fun v w'=>v=.bool (A1 p f (p.2.1[k]))∧St S M w':=by
 by_cases h:p.2.1[k].1 < 3∨15≤p.2.1[k].1∨p.2.1[k].1=13
 ·exact Rd V L hw hnm hk hf h
 ·obtain h|h|h|h|h|h|h|h|h|h|h:p.2.1[k].1=3∨p.2.1[k].1=4∨p.2.1[k].1=5∨p.2.1[k].1=6∨p.2.1[k].1=7∨p.2.1[k].1=8∨p.2.1[k].1=9∨p.2.1[k].1=10∨p.2.1[k].1=11∨p.2.1[k].1=12∨p.2.1[k].1=14:=by omega
  ·exact XE V L hw hnm hk hf h
  ·exact XD V L hw hnm hk hf h
  ·exact XC V L hw hnm hk hf h
  ·exact XB V L hw hnm hk hf h
  ·exact XA V L hw hnm hk hf h
  ·exact Xz V L hw hnm hk hf h
  ·exact Xy V L hw hnm hk hf h
  ·exact UW V L hw hnm hk hf h
  ·exact UV V L hw hnm hk hf h
  ·exact UU V L hw hnm hk hf h
  ·exact UT V L hw hnm hk hf h
end
end Go.Proofs.YtmmbidoldegemaaGreatDoor
