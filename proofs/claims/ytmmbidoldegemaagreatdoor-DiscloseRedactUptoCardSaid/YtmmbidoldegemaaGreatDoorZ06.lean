/- Part 7 of a proof; no conditions. -/
import Derived.Test.YtmmbidoldegemaaGreatDoorZ05
set_option linter.all false
set_option maxRecDepth 8000
set_option maxHeartbeats 8000000
namespace Go.Proofs.YtmmbidoldegemaaGreatDoor
open Go.RowKit Go.Sl Go.Proofs.Tryz
def Sn (w:World):Value→Int
 | .pointer (some ⟨b,_,_⟩)=>match w.heap[b]? with
  | some (.cells c _ _)=>match c.toList with
   | _::.int _ k::_=>k
   | _=>0
  | _=>0
 | _=>0
theorem Hx {S M w} {b o i:Nat} {T v kk k r} (h:St S M w) (hk:M[i]? = some (.box b (v::.int kk k::r) T)):Sn w (.pointer (some ⟨b,o,none⟩))=k:=by
 have h1:w.heap[b]? = some (.cells (v::.int kk k::r).toArray T (0,0)):=h.get hk;simp only [Sn,h1]
abbrev Pj (sl:Sv) (k:Int) (si sn:Sv) (pts:Int):List Value:=[.slice sl.1 sl.2.1 sl.2.2,.int .i64 k,.slice si.1 si.2.1 si.2.2,.slice sn.1 sn.2.1 sn.2.2,.int .i64 0,.int .i64 pts]
def Jd (n:Nat) (k:Int):Nat:=if k < 0 then 0 else n+1 - k.toNat
section
variable {l:List Tk}
theorem dL {f x}:A0 l (f+1) x 5=unaryP l f x:=by rw [A0];exact if_pos rfl
theorem Zt {f x lv} (h:lv≠5):A0 l (f+1) x lv=opsP l f (A0 l f x (lv+1)).1 (A0 l f x (lv+1)).2 lv:=by rw [A0];exact if_neg h
theorem cw {g a y lv} (h:¬ CU l y lv > 0):opsP l (g+1) a y lv=(a,y):=by
 rw [opsP];simp only;rw [if_neg h]
theorem YS {g a y} (h:CU l y 2 > 0):opsP l (g+1) a y 2=BA (A0 l g { y with k:=y.k+1 } 3).2 (CU l y 2,0,⟨[]⟩,[a,(A0 l g { y with k:=y.k+1 } 3).1],()):=by
 rw [opsP];simp only;rw [if_pos h];simp
theorem YR {g a y lv} (h:CU l y lv > 0) (h2:lv≠2):opsP l (g+1) a y lv=opsP l g (BA (A0 l g { y with k:=y.k+1 } (lv+1)).2 (CU l y lv,0,⟨[]⟩,[a,(A0 l g { y with k:=y.k+1 } (lv+1)).1],())).1 (BA (A0 l g { y with k:=y.k+1 } (lv+1)).2 (CU l y lv,0,⟨[]⟩,[a,(A0 l g { y with k:=y.k+1 } (lv+1)).1],())).2 lv:=by
 rw [opsP];simp only;rw [if_pos h,if_neg h2]
theorem X7 (x lv):0≤CU l x lv∧CU l x lv≤100000:=by
 unfold CU
 repeat' split
 all_goals omega
theorem WA (hm:l.length≤1500) {f} (hU:SS l f) {S M} (w sl si sn cn x) (V:St S (.sl (Ar sn) 139 4 x.nds.length cn::M) w) (hR:RL S cn x.nds) (hl:RSl S (Ar sl) l) (hi:AL l 0 x) (hf:8 * BY l x+7 - 5≤f+1):
  Ac prog 135 [CI sl x.k si sn x.pts,.int .i64 5] w (De S M sl si (A0 l (f+1) x 5)):=by
 rw [dL];have cU:=fun {M} w (V:St S (.sl (Ar sn) 139 4 x.nds.length cn::M) w)=>hU w sl si sn cn x V hR hl hi (by omega)
 clear hU hi hf;unfold Ac;go_enter func135,ntmps135;repeat' (first|(apply O ();go_step)|(apply kc ();refine sc (cU _ (V.move (k:=2) rfl)) ?_;clear V;rintro v w ⟨S1,sn1,cn1,hS1,rfl,hb1,hR1,V⟩<;>(try replace V:=nH V))|apply sX ()|(apply sS ();clear V;intro w V)|(apply sB ();clear V;intro bx w V)|(apply sA ();clear V;intro bk w V)|fail)
 apply Xb ()
theorem dK (hm:l.length≤1500) {f} (hE:∀ g,g≤f→Xn l g) {S M} (w sl si sn cn x lv) (hlv:lv < 5) (V:St S (.sl (Ar sn) 139 4 x.nds.length cn::M) w) (hR:RL S cn x.nds) (hl:RSl S (Ar sl) l) (hi:AL l 0 x) (hf:8 * BY l x+7 - lv≤f+1):
  Ac prog 135 [CI sl x.k si sn x.pts,.int .i64 (lv:Int)] w (De S M sl si (A0 l (f+1) x lv)):=by
 rw [Zt (by omega)];have cE:=fun {M} w (V:St S (.sl (Ar sn) 139 4 x.nds.length cn::M) w)=>hE f (Nat.le_refl _) w sl si sn cn x (lv+1) (by omega) V hR hl hi (by omega)
 have m3:=(Er (l:=l) f).1 _ _ (lv+1) hi;have m4:=(Hy (l:=l) f).1 _ (lv+1) hi.lo;have m5:8 * BY l (A0 l f x (lv+1)).2+1≤f:=by rcases Ir m4 m3.hi with h|h<;>omega
 generalize A0 l f x (lv+1)=r at *;clear hi hf hR m4;obtain ⟨R,hRR⟩:∃ R,opsP l f r.1 r.2 lv=R:=⟨_,rfl⟩
 have HR:=Lib.hid hRR;rw [hRR];clear hRR;unfold Ac;go_enter func135,ntmps135;repeat' ((apply ZZ 1);first|(apply O ();go_step)|(apply sB ();clear V;intro bx w V)|(apply sA ();clear V;intro bk w V)|fail)
 obtain ⟨b5,rfl⟩:∃ b,b=bk:=⟨_,rfl⟩
 repeat' ((apply ZZ 4);first|(apply O ();go_step)|(apply kc ();refine sc (cE _ (V.move (k:=2) rfl)) ?_;clear V;rintro v w ⟨S1,sn1,cn1,hS1,rfl,hb1,hR1,V⟩<;>(try replace V:=nH V))|apply sX ()|(apply sS ();clear V;intro w V)|(apply sA ();clear V;intro bk w V)|fail)
 have cS:=fun {M} w (V:St S1 M w)=>PJ w V sl si sn1 r.2 (hl.mono hS1) hm lv hlv
 repeat' (first|(apply O ();go_step)|(apply kc ();refine sc (cS _ V) ?_;clear V;rintro v w ⟨rfl,V⟩)|apply sX ()|fail)
 clear cS
 go_loopw [6,8] (fun u6 u8 wr=>∃ (g:Nat) (a:Int) (y:PS) (T:Ad) (sn':Sv) (cn':List Value),S.Le T∧u6=.int .i64 a∧u8=.int .i64 (CU l y lv)∧Hid (opsP l g a y lv=R)∧(0≤a∧a≤100000)∧AL l 0 y∧(8 * BY l y+1≤g∧g≤f)∧RL T cn' y.nds∧St T (.box bk (Pj sl y.k si sn' y.pts) 132::.sl (Ar sn') 139 4 y.nds.length cn'::.box b5 (Pj (none,0,0) 0 (none,0,0) (none,0,0) 0) 132::.box bx (Pj sl x.k si sn x.pts) 132::M) wr) (fun _ _ wr=>Jd l.length (Sn wr (.pointer (some ⟨bk,0,none⟩))))
 case atStart=>exact ⟨f,r.1,r.2,S1,sn1,cn1,hS1,rfl,rfl,HR,hb1,m3,⟨m5,Nat.le_refl _⟩,hR1,V⟩
 case round =>
  clear V hR1 hb1 m3 m5 HR hS1 cE;obtain ⟨g,a,y,T,sn',cn',hT,rfl,rfl,HR,hb,hi,hg,hR,V⟩:=hrel;have hk0:=Lib.hid (Hx (o:=0) (i:=0) V rfl);by_cases h:CU l y lv > 0
  ·have L:=KN h;obtain ⟨g,rfl⟩:∃ g',g=g'+1:=⟨g - 1,by omega⟩
   have hi1:=PF hi L
   have hr1:BY l ({ y with k:=y.k+1 }:PS)+1≤BY l y:=by
    unfold BY;rw [if_neg (by simp only;omega),if_neg (by omega)];simp only;omega
   have hkd:=X7 (l:=l) y lv;have e2:lv=2→opsP l (g+1) a y lv=BA (A0 l g { y with k:=y.k+1 } (lv+1)).2 (CU l y lv,0,⟨[]⟩,[a,(A0 l g { y with k:=y.k+1 } (lv+1)).1],()):=fun e=>by subst e;exact YS h
   have e3:=YR (l:=l) (g:=g) (a:=a) h;generalize hy1:({ y with k:=y.k+1 }:PS)=y1 at *;have y1k:y1.k=y.k+1:=by rw [← hy1]
   have y1n:y1.nds=y.nds:=by rw [← hy1]
   have y1p:y1.pts=y.pts:=by rw [← hy1]
   have cE:=fun {M} w (V:St T (.sl (Ar sn') 139 4 y.nds.length cn'::M) w)=>hE g (by omega) w sl si sn' cn' y1 (lv+1) (by omega) (by rw [y1n];exact V) (by rw [y1n];exact hR) (hl.mono hT) (hi1.le (by omega)) (by omega)
   rw [y1k,y1p] at cE;have m3:=(Er (l:=l) g).1 _ _ (lv+1) hi1;have m4:=(Hy (l:=l) g).1 _ (lv+1) hi1.lo;have m6:=Ir m4 m3.hi;generalize A0 l g y1 (lv+1)=r2 at *;have Y1:=Lib.hid y1k;clear hy1 hi1 y1k y1n y1p;generalize CU l y lv=kd at *;repeat' ((apply ZZ 8);first|(apply O ();go_step)|(apply kc ();refine sc (cE _ (V.move (k:=1) rfl)) ?_;clear V;rintro v w ⟨S2,sn2,cn2,hS2,rfl,hb2,hR2,V⟩<;>(try replace V:=nH V))|apply sX ()|(apply sS ();clear V;intro w V)|(apply sA ();clear V;intro bk w V)|fail)
   clear cE;repeat' (first|(apply O ();go_step)|apply sX ()|fail)
   refine Ay (vs:=[.int .i64 a,.int .i64 r2.1]) V Y Y rfl rfl (by simp [Value.cells]) rfl (by omega) (by omega) ?_;clear V;intro xx w V;obtain ⟨S3,hS3,hst2,hx⟩:=St.freeze (α:=Int) V (Iq (Ah hb) (Ah hb2)) rfl;clear V;have V:=hst2;clear hst2;obtain ⟨ax,nx,cx,rfl⟩:=BQ hx;apply nW ();have hb3:r2.2.nds.length≤100000:=by have:=m3.nds;omega
   have cN:=fun {M} w (V:St S3 (.sl (Ar sn2) 139 4 r2.2.nds.length cn2::M) w)=>EJ w sl si sn2 cn2 r2.2 V (hR2.mono hS3) hb3 kd 0 ⟨[]⟩ (ax,nx,cx) [a,r2.1] (GQ (Ah hkd) (Ah (by decide)) (by decide) hx)
   have n3:=Dy (kd,0,⟨[]⟩,[a,r2.1],()) m3;have n4:=EK r2.2 (kd,0,⟨[]⟩,[a,r2.1],());generalize BA r2.2 (kd,0,⟨[]⟩,[a,r2.1],())=q at *;have hq:BY l q.2=BY l r2.2:=by unfold BY;rw [n4]
   have N4:=Lib.hid n4;clear n4 m3;repeat' ((apply ZZ 9);first|(apply O ();go_step)|(apply kc ();refine sc (cN _ (V.move (k:=1) rfl)) ?_;clear V;rintro v w ⟨S4,sn4,cn4,hS4,rfl,hb4,hR4,V⟩<;>(try replace V:=nH V))|(apply sS ();clear V;intro w V)|fail)
   clear cN;have hSa:=hT.trans (hS2.trans (hS3.trans hS4));by_cases e:lv=2
   ·have HQ:=Lib.hid (HR.out.symm.trans (e2 e));have hE2:2≤lv∧lv≤2:=by omega
    clear e2 e3 e HR;repeat' (first|(apply O ();go_step)|fail)
    refine AD V kr ?_;clear V;intro ops;apply nW ();refine td 0 rfl ?_;refine td 1 rfl ?_;refine td 2 rfl ?_;refine AP 3 rfl kr ?_;intro w V K G;(refine Ax V rfl _ N.h Y X rfl A3 A2 (by simp<;>omega) ?_);clear V;intro w V;apply nW ();(try replace V:=nH V);refine Bb G V ?_;clear V G K;(try clear w);apply nW ();refine AJ kr ?_;clear ops;intro w V;repeat' (first|(apply O ();go_step)|fail)
    refine Bc rfl (A8 rfl) (AZ V rfl _ N.h Y rfl rfl) ?_;(try simp only [AV,List.drop_zero,List.drop_succ_cons,List.take_succ_cons,List.take_zero,AB,Ap]);refine ⟨_,rfl,?_⟩;rw [HQ.out];exact ⟨S4,sn4,cn4,hSa,rfl,hb4,hR4,V.sub⟩
   ·have HQ:=Lib.hid ((e3 e).symm.trans HR.out);have e':lv < 2∨2 < lv:=by omega
    clear e2 e3 HR;have cS:=fun {M} w (V:St S4 M w)=>PJ w V sl si sn4 q.2 (hl.mono hSa) hm lv hlv
    repeat' (first|(apply O ();go_step)|(apply kc ();refine sc (cS _ V) ?_;clear V;rintro v w ⟨rfl,V⟩)|apply sX ()|fail)
    go_roundw
    case rel =>
     exact ⟨g,q.1,q.2,S4,sn4,cn4,hSa,rfl,rfl,HQ,hb4,n3,⟨by omega,by omega⟩,hR4,(St.swap V.sub)⟩
    case measure =>
     have h1:=Hx (o:=0) (i:=2) V rfl;rw [hk0.out,h1];have h2:=m4;unfold BT at h2;rw [Y1.out] at h2;rw [N4.out];have h3:=n3.hi;rw [N4.out] at h3;unfold Jd;split<;>split<;>omega
  ·obtain ⟨g,rfl⟩:∃ g',g=g'+1:=⟨g - 1,by omega⟩
   have HQ:=Lib.hid (HR.out.symm.trans (cw h));clear HR;generalize CU l y lv=kd at *;repeat' (first|(apply O ();go_step)|fail)
   refine AD V kr ?_;clear V;intro ops;apply nW ();refine td 0 rfl ?_;refine td 1 rfl ?_;refine td 2 rfl ?_;refine AP 3 rfl kr ?_;intro w V K G;(refine Ax V rfl _ N.h Y X rfl A3 A2 (by simp<;>omega) ?_);clear V;intro w V;apply nW ();(try replace V:=nH V);refine Bb G V ?_;clear V G K;(try clear w);apply nW ();refine AJ kr ?_;clear ops;intro w V;repeat' (first|(apply O ();go_step)|fail)
   refine Bc rfl (A8 rfl) (AZ V rfl _ N.h Y rfl rfl) ?_;(try simp only [AV,List.drop_zero,List.drop_succ_cons,List.take_succ_cons,List.take_zero,AB,Ap]);refine ⟨_,rfl,?_⟩;rw [HQ.out];exact ⟨T,sn',cn',hT,rfl,hb,hR,V.sub⟩
theorem Oq (hm:l.length≤1500):∀ f,SS l f∧Xn l f:=by
 have H:∀ n f,f≤n→SS l f∧Xn l f:=by
  intro n
  induction n with
  | zero =>
   intro f hf;obtain rfl:f=0:=by omega
   exact ⟨fun w sl si sn cn x _ _ _ _ h=>absurd h (by omega),fun w sl si sn cn x lv h5 _ _ _ _ h=>absurd h (by omega)⟩
  | succ n ih =>
   intro f hf;by_cases h:f≤n
   ·exact ih f h
   ·obtain rfl:f=n+1:=by omega
    refine ⟨SY hm (ih n (Nat.le_refl _)).1 (ih n (Nat.le_refl _)).2,fun w sl si sn cn x lv h5 V hR hl hi h=>?_⟩;by_cases e:lv=5
    ·subst e;exact WA hm (ih n (Nat.le_refl _)).1 w sl si sn cn x V hR hl hi h
    ·exact dK hm (fun g hg=>(ih g hg).2) w sl si sn cn x lv (by omega) V hR hl hi h
 exact fun f=>H f f (Nat.le_refl _)
end
section
variable {l:List Tk}
theorem Vn {f x} (h:AS l x [108,101,116]=true):DB l f x=((11,0,(AM l (Al l x [108,101,116])).1,[(A0 l f (Al l (AM l (Al l x [108,101,116])).2 [61]) 0).1],()),(A0 l f (Al l (AM l (Al l x [108,101,116])).2 [61]) 0).2):=by
 unfold DB;rw [if_pos h]
theorem Tq {f x} (h:AS l x [108,101,116]=false) (h2:AS l x [110,111,116,101]=true):DB l f x=((14,0,⟨[]⟩,[(A0 l f (Al l x [110,111,116,101]) 0).1],()),(A0 l f (Al l x [110,111,116,101]) 0).2):=by
 unfold DB;rw [if_neg (by rw [h];decide),if_pos h2]
theorem Tr {f x} (h:AS l x [108,101,116]=false) (h2:AS l x [110,111,116,101]=false) (h3:AS l x [104,97,108,116]=true):DB l f x=((15,(AN l (Al l x [104,97,108,116])).1,⟨[]⟩,[],()),(AN l (Al l x [104,97,108,116])).2):=by
 unfold DB;rw [if_neg (by rw [h];decide),if_neg (by rw [h2];decide),if_pos h3]
theorem Vr {f x} (h:AS l x [108,101,116]=false) (h2:AS l x [110,111,116,101]=false) (h3:AS l x [104,97,108,116]=false):DB l f x=((16,0,⟨[]⟩,[],()),Al l x [97,99,99,101,112,116]):=by
 unfold DB;rw [if_neg (by rw [h];decide),if_neg (by rw [h2];decide),if_neg (by rw [h3];decide)]
theorem cZ {S M} {w x v T c} (h:St S (.sl v T 4 x.nds.length c::M) w):St S (.sl v T 4 (AM l x).2.nds.length c::M) w:=by rw [(CP x).1];exact h
theorem da {S x c} (h:RL S c x.nds):RL S c (AM l x).2.nds:=by rw [(CP x).1];exact h
theorem OZ {S M} {w x v T c} (h:St S (.sl v T 4 x.nds.length c::M) w):St S (.sl v T 4 (AN l x).2.nds.length c::M) w:=by rw [(B7 x).1];exact h
theorem O0 {S x c} (h:RL S c x.nds):RL S c (AN l x).2.nds:=by rw [(B7 x).1];exact h
theorem Re (hm:l.length≤1500) {f} (hf:8 * l.length+7≤f) {S M} (w sl si sn cn x) (V:St S (.sl (Ar sn) 139 4 x.nds.length cn::M) w) (hR:RL S cn x.nds) (hl:RSl S (Ar sl) l) (hi:AL l 0 x) (hz:AS l x [108,101,116]=false) (hz2:AS l x [110,111,116,101]=true):
  Ac prog 103 [CI sl x.k si sn x.pts] w (De S M sl si (Dl l f x)):=by
 unfold Dl;rw [Tq hz hz2];have c1:=fun {M} w (V:St S M w)=>Cr w V sl si sn x hl hm [108,101,116]
 rw [hz] at c1;have c2:=fun {M} w (V:St S M w)=>Cr w V sl si sn x hl hm [110,111,116,101]
 rw [hz2] at c2;have cM:=fun {M} w (V:St S M w)=>Bv w V sl si sn x hl hm [110,111,116,101]
 have m1:=AR (l:=l) [110,111,116,101] hi;have cE:=fun {M} w (V:St S (.sl (Ar sn) 139 4 x.nds.length cn::M) w)=>(Oq hm f).2 w sl si sn cn (Al l x [110,111,116,101]) 0 (by omega) (CQ V) (CR hR) hl (m1.le (by omega)) (by have:=JN (l:=l) (Al l x [110,111,116,101]);omega)
 generalize Al l x [110,111,116,101]=y at *;have m2:=(Er (l:=l) f).1 _ _ 0 m1;generalize A0 l f y 0=r at *;have m3:=AR (l:=l) [59] m2;clear hi hf hz hz2 m1 m2;unfold Ac;go_enter func103,ntmps103;repeat' ((apply ZZ 11);first|(apply O ();go_step)|(apply kc ();refine sc (c1 _ V) ?_;clear V;rintro v w ⟨rfl,V⟩)|(apply kc ();refine sc (c2 _ V) ?_;clear V;rintro v w ⟨rfl,V⟩)|(apply kc ();refine sc (cM _ V) ?_;clear V;rintro v w ⟨rfl,V⟩)|(apply kc ();refine sc (cE _ (V.move (k:=3) rfl)) ?_;clear V;rintro v w ⟨S1,sn1,cn1,hS1,rfl,hb1,hR1,V⟩<;>(try replace V:=nH V))|apply sX ()|(apply sS ();clear V;intro w V)|(apply sB ();clear V;intro bx w V)|(apply sA ();clear V;intro bk w V)|fail)
 repeat' (first|(apply O ();go_step)|fail)
 refine Ay (vs:=[.int .i64 r.1]) V Y Y rfl rfl (by simp [Value.cells]) rfl (by omega) (by omega) ?_;clear V;intro xx w V;obtain ⟨S2,hS2,hst2,hx⟩:=St.freeze (α:=Int) V (Cw (Ah hb1)) rfl;clear V;have V:=hst2;clear hst2;obtain ⟨ax,nx,cx,rfl⟩:=BQ hx;apply nW ();have cM2:=fun {M} w (V:St S2 M w)=>Bv w V sl si sn1 r.2 ((hl.mono hS1).mono hS2) hm [59]
 have hb3:(Al l r.2 [59]).nds.length≤100000:=by have:=m3.nds;omega
 have cN:=fun {M} w (V:St S2 (.sl (Ar sn1) 139 4 r.2.nds.length cn1::M) w)=>EJ w sl si sn1 cn1 (Al l r.2 [59]) (CQ V) (CR (hR1.mono hS2)) hb3 14 0 ⟨[]⟩ (ax,nx,cx) [r.1] (GQ (Ah (by decide)) (Ah (by decide)) (by decide) hx)
 apply b8 ()
theorem To (hm:l.length≤1500) {f} (hf:8 * l.length+7≤f) {S M} (w sl si sn cn x) (V:St S (.sl (Ar sn) 139 4 x.nds.length cn::M) w) (hR:RL S cn x.nds) (hl:RSl S (Ar sl) l) (hi:AL l 0 x) (hz:AS l x [108,101,116]=true):
  Ac prog 103 [CI sl x.k si sn x.pts] w (De S M sl si (Dl l f x)):=by
 unfold Dl;rw [Vn hz];have c1:=fun {M} w (V:St S M w)=>Cr w V sl si sn x hl hm [108,101,116]
 rw [hz] at c1;have cM:=fun {M} w (V:St S M w)=>Bv w V sl si sn x hl hm [108,101,116]
 have cA:=fun {M} w (V:St S M w)=>Iu w V sl si sn (Al l x [108,101,116]) hl hm
 have cB:=fun {M} w (V:St S M w)=>Bv w V sl si sn (AM l (Al l x [108,101,116])).2 hl hm [61]
 have hs1:=fun {M} w (V:St S (.sl (Ar sn) 139 4 x.nds.length cn::M) w)=>CQ (l:=l) (s:=[61]) (cZ (l:=l) (CQ (l:=l) (s:=[108,101,116]) V))
 have hr1:=CR (l:=l) (s:=[61]) (da (l:=l) (CR (l:=l) (s:=[108,101,116]) hR));have m1:=AR (l:=l) [61] (Jb (AR (l:=l) [108,101,116] hi));have hnl:=Gj hl (Al l x [108,101,116]);generalize Al l x [108,101,116]=y0 at *;generalize AM l y0=y1 at *;have cE:=fun {M} w (V:St S (.sl (Ar sn) 139 4 x.nds.length cn::M) w)=>(Oq hm f).2 w sl si sn cn (Al l y1.2 [61]) 0 (by omega) (hs1 w V) hr1 hl (m1.le (by omega)) (by have:=JN (l:=l) (Al l y1.2 [61]);omega)
 generalize Al l y1.2 [61]=y at *;have m2:=(Er (l:=l) f).1 _ _ 0 m1;generalize A0 l f y 0=r at *;have m3:=AR (l:=l) [59] m2;clear hi hf hz m1 m2 hs1 hr1;unfold Ac;go_enter func103,ntmps103;repeat' ((apply ZZ 6);first|(apply O ();go_step)|(apply kc ();refine sc (c1 _ V) ?_;clear V;rintro v w ⟨rfl,V⟩)|(apply kc ();refine sc (cM _ V) ?_;clear V;rintro v w ⟨rfl,V⟩)|(apply kc ();refine sc (cA _ V) ?_;clear V;rintro v w ⟨rfl,V⟩)|apply sX ()|(apply sS ();clear V;intro w V)|(apply sB ();clear V;intro bx w V)|(apply sA ();clear V;intro bk w V)|fail)
 repeat' ((apply ZZ 7);first|(apply O ();go_step)|(apply kc ();refine sc (cB _ V) ?_;clear V;rintro v w ⟨rfl,V⟩)|(apply kc ();refine sc (cE _ (V.move (k:=4) rfl)) ?_;clear V;rintro v w ⟨S1,sn1,cn1,hS1,rfl,hb1,hR1,V⟩<;>(try replace V:=nH V))|apply sX ()|(apply sS ();clear V;intro w V)|(apply sA ();clear V;intro bk w V)|fail)
 repeat' (first|(apply O ();go_step)|fail)
 refine Ay (vs:=[.int .i64 r.1]) V Y Y rfl rfl (by simp [Value.cells]) rfl (by omega) (by omega) ?_;clear V;intro xx w V;obtain ⟨S2,hS2,hst2,hx⟩:=St.freeze (α:=Int) V (Cw (Ah hb1)) rfl;clear V;have V:=hst2;clear hst2;obtain ⟨ax,nx,cx,rfl⟩:=BQ hx;apply nW ();have cM2:=fun {M} w (V:St S2 M w)=>Bv w V sl si sn1 r.2 ((hl.mono hS1).mono hS2) hm [59]
 have hb3:(Al l r.2 [59]).nds.length≤100000:=by have:=m3.nds;omega
 have cN:=fun {M} w (V:St S2 (.sl (Ar sn1) 139 4 r.2.nds.length cn1::M) w)=>EJ w sl si sn1 cn1 (Al l r.2 [59]) (CQ V) (CR (hR1.mono hS2)) hb3 11 0 y1.1 (ax,nx,cx) [r.1] (GQ (Ah (by decide)) (Ah (by decide)) hnl hx)
 apply b8 ()
theorem Rf (hm:l.length≤1500) {f} (hf:8 * l.length+7≤f) {S M} (w sl si sn cn x) (V:St S (.sl (Ar sn) 139 4 x.nds.length cn::M) w) (hR:RL S cn x.nds) (hl:RSl S (Ar sl) l) (hi:AL l 0 x) (hz:AS l x [108,101,116]=false) (hz2:AS l x [110,111,116,101]=false) (hz3:AS l x [104,97,108,116]=true):
  Ac prog 103 [CI sl x.k si sn x.pts] w (De S M sl si (Dl l f x)):=by
 unfold Dl;rw [Tr hz hz2 hz3];have c1:=fun {M} w (V:St S M w)=>Cr w V sl si sn x hl hm [108,101,116]
 rw [hz] at c1;have c2:=fun {M} w (V:St S M w)=>Cr w V sl si sn x hl hm [110,111,116,101]
 rw [hz2] at c2;have c3:=fun {M} w (V:St S M w)=>Cr w V sl si sn x hl hm [104,97,108,116]
 rw [hz3] at c3;have cM:=fun {M} w (V:St S M w)=>Bv w V sl si sn x hl hm [104,97,108,116]
 have cA:=fun {M} w (V:St S M w)=>FC w V sl si sn (Al l x [104,97,108,116]) hl hm
 have hs1:=fun {M} w (V:St S (.sl (Ar sn) 139 4 x.nds.length cn::M) w)=>OZ (l:=l) (CQ (l:=l) (s:=[104,97,108,116]) V)
 have hr1:=O0 (l:=l) (CR (l:=l) (s:=[104,97,108,116]) hR);have m1:=CZ (AR (l:=l) [104,97,108,116] hi);have hnl:=Ew hl (Al l x [104,97,108,116]);generalize Al l x [104,97,108,116]=y0 at *;generalize AN l y0=r at *;have cM2:=fun {M} w (V:St S M w)=>Bv w V sl si sn r.2 hl hm [59]
 have m3:=AR (l:=l) [59] m1;have hb3:(Al l r.2 [59]).nds.length≤100000:=by have:=m3.nds;omega
 have cN:=fun {M} w (V:St S (.sl (Ar sn) 139 4 x.nds.length cn::M) w)=>EJ w sl si sn cn (Al l r.2 [59]) (CQ (hs1 _ V)) (CR hr1) hb3 15 r.1 ⟨[]⟩ (none,0,0) [] (GQ (Ah (by decide)) hnl (by decide) GO)
 clear hi hf hz hz2 hz3 m1 hr1;unfold Ac;go_enter func103,ntmps103;repeat' ((apply ZZ 17);first|(apply O ();go_step)|(apply kc ();refine sc (c1 _ V) ?_;clear V;rintro v w ⟨rfl,V⟩)|(apply kc ();refine sc (c2 _ V) ?_;clear V;rintro v w ⟨rfl,V⟩)|(apply kc ();refine sc (c3 _ V) ?_;clear V;rintro v w ⟨rfl,V⟩)|(apply kc ();refine sc (cM _ V) ?_;clear V;rintro v w ⟨rfl,V⟩)|(apply kc ();refine sc (cA _ V) ?_;clear V;rintro v w ⟨rfl,V⟩)|apply sX ()|(apply sS ();clear V;intro w V)|(apply sB ();clear V;intro bx w V)|(apply sA ();clear V;intro bk w V)|fail)
 refine Bm V kr ?_;clear V;intro w V;have hSS:=Cn V;apply nW ();refine Cp 0 2 rfl rfl kr ?_ ?_;intro K G;refine Ag V (AT rfl _ N.h Y rfl rfl) ?_;refine pn G ?_;clear G K;refine Cp 1 2 rfl rfl kr ?_ ?_;intro K G;refine sc (cM2 _ V) ?_;clear V;rintro v1 w ⟨rfl,V⟩;refine pn G ?_;clear G K;refine po 2 rfl ?_;intro K G;refine Ag V (AT rfl _ N.h Y rfl rfl) ?_;refine pn G ?_;clear G K;refine po 3 rfl ?_;intro K G;refine sc (cN _ (V.move (k:=4) rfl)) ?_;clear V;rintro v3 w ⟨S3,sn3,cn3,hS3,rfl,hb3,hR3,V⟩;(try replace V:=nH V);replace hSS:=hSS.trans hS3;refine pn G ?_;clear G K;refine pd 4 rfl ?_;refine pd 5 rfl ?_;refine pd 6 rfl ?_;refine po 7 rfl ?_;intro K G;(refine Ax V rfl _ N.h Y X rfl A3 A2 (by simp<;>omega) ?_);clear V;intro w V;(try replace V:=nH V);refine pn G ?_;clear G K;refine AK kr ?_;rotate_left;intro K G;refine Ag V (AT rfl _ N.h Y rfl rfl) ?_;refine pn G ?_;clear G K;refine po 1 rfl ?_;intro K G;refine sc (cM2 _ V) ?_;clear V;rintro v1 w ⟨rfl,V⟩;refine pn G ?_;clear G K;refine po 3 rfl ?_;intro K G;refine sc (cN _ (V.move (k:=4) rfl)) ?_;clear V;rintro v3 w ⟨S3,sn3,cn3,hS3,rfl,hb3,hR3,V⟩;(try replace V:=nH V);replace hSS:=hSS.trans hS3;refine pn G ?_;clear G K;refine pd 4 rfl ?_;refine pd 5 rfl ?_;refine pd 6 rfl ?_
 refine po 7 rfl ?_;intro K G;(refine Ax V rfl _ N.h Y X rfl A3 A2 (by simp<;>omega) ?_);clear V;intro w V;(try replace V:=nH V);refine pn G ?_;clear G K;refine AK kr ?_;rotate_left;intro K G;refine Ag V (AT rfl _ N.h Y rfl rfl) ?_;refine pn G ?_;clear G K;refine po 0 rfl ?_;intro K G;refine Ag V (AT rfl _ N.h Y rfl rfl) ?_;refine pn G ?_;clear G K;refine po 1 rfl ?_;intro K G;refine sc (cM2 _ V) ?_;clear V;rintro v1 w ⟨rfl,V⟩;refine pn G ?_;clear G K;refine po 3 rfl ?_;intro K G;refine sc (cN _ (V.move (k:=4) rfl)) ?_;clear V;rintro v3 w ⟨S3,sn3,cn3,hS3,rfl,hb3,hR3,V⟩;(try replace V:=nH V);replace hSS:=hSS.trans hS3;refine pn G ?_;clear G K;refine pd 4 rfl ?_;refine pd 5 rfl ?_;refine pd 6 rfl ?_;refine po 7 rfl ?_;intro K G;(refine Ax V rfl _ N.h Y X rfl A3 A2 (by simp<;>omega) ?_);clear V;intro w V;(try replace V:=nH V);refine pn G ?_;clear G K;refine AK kr ?_;rotate_left
 all_goals
  apply jW ()
theorem Tp (hm:l.length≤1500) {f} (hf:8 * l.length+7≤f) {S M} (w sl si sn cn x) (V:St S (.sl (Ar sn) 139 4 x.nds.length cn::M) w) (hR:RL S cn x.nds) (hl:RSl S (Ar sl) l) (hi:AL l 0 x) (hz:AS l x [108,101,116]=false) (hz2:AS l x [110,111,116,101]=false) (hz3:AS l x [104,97,108,116]=false):
  Ac prog 103 [CI sl x.k si sn x.pts] w (De S M sl si (Dl l f x)):=by
 unfold Dl;rw [Vr hz hz2 hz3];have c1:=fun {M} w (V:St S M w)=>Cr w V sl si sn x hl hm [108,101,116]
 rw [hz] at c1;have c2:=fun {M} w (V:St S M w)=>Cr w V sl si sn x hl hm [110,111,116,101]
 rw [hz2] at c2;have c3:=fun {M} w (V:St S M w)=>Cr w V sl si sn x hl hm [104,97,108,116]
 rw [hz3] at c3;have cM:=fun {M} w (V:St S M w)=>Bv w V sl si sn x hl hm [97,99,99,101,112,116]
 have hs1:=fun {M} w (V:St S (.sl (Ar sn) 139 4 x.nds.length cn::M) w)=>CQ (l:=l) (s:=[97,99,99,101,112,116]) V
 have hr1:=CR (l:=l) (s:=[97,99,99,101,112,116]) hR;have m1:=AR (l:=l) [97,99,99,101,112,116] hi;generalize Al l x [97,99,99,101,112,116]=r at *;have cM2:=fun {M} w (V:St S M w)=>Bv w V sl si sn r hl hm [59]
 have m3:=AR (l:=l) [59] m1;have hb3:(Al l r [59]).nds.length≤100000:=by have:=m3.nds;omega
 have cN:=fun {M} w (V:St S (.sl (Ar sn) 139 4 x.nds.length cn::M) w)=>EJ w sl si sn cn (Al l r [59]) (CQ (hs1 _ V)) (CR hr1) hb3 16 0 ⟨[]⟩ (none,0,0) [] (GQ (Ah (by decide)) (Ah (by decide)) (by decide) GO)
 clear hi hf hz hz2 hz3 m1 hr1;unfold Ac;go_enter func103,ntmps103;repeat' ((apply ZZ 17);first|(apply O ();go_step)|(apply kc ();refine sc (c1 _ V) ?_;clear V;rintro v w ⟨rfl,V⟩)|(apply kc ();refine sc (c2 _ V) ?_;clear V;rintro v w ⟨rfl,V⟩)|(apply kc ();refine sc (c3 _ V) ?_;clear V;rintro v w ⟨rfl,V⟩)|(apply kc ();refine sc (cM _ V) ?_;clear V;rintro v w ⟨rfl,V⟩)|apply sX ()|(apply sS ();clear V;intro w V)|(apply sB ();clear V;intro bx w V)|(apply sA ();clear V;intro bk w V)|fail)
 refine Bm V kr ?_;clear V;intro w V;have hSS:=Cn V;apply nW ();refine Cp 0 2 rfl rfl kr ?_ ?_;intro K G;refine Ag V (AT rfl _ N.h Y rfl rfl) ?_;refine pn G ?_;clear G K;refine Cp 1 2 rfl rfl kr ?_ ?_;intro K G;refine sc (cM2 _ V) ?_;clear V;rintro v1 w ⟨rfl,V⟩;refine pn G ?_;clear G K;refine po 2 rfl ?_;intro K G;refine Ag V (AT rfl _ N.h Y rfl rfl) ?_;refine pn G ?_;clear G K;refine po 3 rfl ?_;intro K G;refine sc (cN _ (V.move (k:=3) rfl)) ?_;clear V;rintro v3 w ⟨S3,sn3,cn3,hS3,rfl,hb3,hR3,V⟩;(try replace V:=nH V);replace hSS:=hSS.trans hS3;refine pn G ?_;clear G K;refine pd 4 rfl ?_;refine pd 5 rfl ?_;refine pd 6 rfl ?_;refine po 7 rfl ?_;intro K G;(refine Ax V rfl _ N.h Y X rfl A3 A2 (by simp<;>omega) ?_);clear V;intro w V;(try replace V:=nH V);refine pn G ?_;clear G K;refine AK kr ?_;rotate_left;intro K G;refine Ag V (AT rfl _ N.h Y rfl rfl) ?_;refine pn G ?_;clear G K;refine po 1 rfl ?_;intro K G;refine sc (cM2 _ V) ?_;clear V;rintro v1 w ⟨rfl,V⟩;refine pn G ?_;clear G K;refine po 3 rfl ?_;intro K G;refine sc (cN _ (V.move (k:=3) rfl)) ?_;clear V;rintro v3 w ⟨S3,sn3,cn3,hS3,rfl,hb3,hR3,V⟩;(try replace V:=nH V);replace hSS:=hSS.trans hS3;refine pn G ?_;clear G K;refine pd 4 rfl ?_;refine pd 5 rfl ?_;refine pd 6 rfl ?_
 refine po 7 rfl ?_;intro K G;(refine Ax V rfl _ N.h Y X rfl A3 A2 (by simp<;>omega) ?_);clear V;intro w V;(try replace V:=nH V);refine pn G ?_;clear G K;refine AK kr ?_;rotate_left;intro K G;refine Ag V (AT rfl _ N.h Y rfl rfl) ?_;refine pn G ?_;clear G K;refine po 0 rfl ?_;intro K G;refine Ag V (AT rfl _ N.h Y rfl rfl) ?_;refine pn G ?_;clear G K;refine po 1 rfl ?_;intro K G;refine sc (cM2 _ V) ?_;clear V;rintro v1 w ⟨rfl,V⟩;refine pn G ?_;clear G K;refine po 3 rfl ?_;intro K G;refine sc (cN _ (V.move (k:=3) rfl)) ?_;clear V;rintro v3 w ⟨S3,sn3,cn3,hS3,rfl,hb3,hR3,V⟩;(try replace V:=nH V);replace hSS:=hSS.trans hS3;refine pn G ?_;clear G K;refine pd 4 rfl ?_;refine pd 5 rfl ?_;refine pd 6 rfl ?_;refine po 7 rfl ?_;intro K G;(refine Ax V rfl _ N.h Y X rfl A3 A2 (by simp<;>omega) ?_);clear V;intro w V;(try replace V:=nH V);refine pn G ?_;clear G K;refine AK kr ?_;rotate_left
 all_goals
  apply jW ()
theorem X5 (hm:l.length≤1500) {f} (hf:8 * l.length+7≤f) {S M} (w sl si sn cn x) (V:St S (.sl (Ar sn) 139 4 x.nds.length cn::M) w) (hR:RL S cn x.nds) (hl:RSl S (Ar sl) l) (hi:AL l 0 x):
  Ac prog 103 [CI sl x.k si sn x.pts] w (De S M sl si (Dl l f x)):=by
 cases hz:AS l x [108,101,116] with
 | true=>exact To hm hf w sl si sn cn x V hR hl hi hz
 | false =>
  cases hz2:AS l x [110,111,116,101] with
  | true=>exact Re hm hf w sl si sn cn x V hR hl hi hz hz2
  | false =>
   cases hz3:AS l x [104,97,108,116] with
   | true=>exact Rf hm hf w sl si sn cn x V hR hl hi hz hz2 hz3
   | false=>exact Tp hm hf w sl si sn cn x V hR hl hi hz hz2 hz3
end
end Go.Proofs.YtmmbidoldegemaaGreatDoor
