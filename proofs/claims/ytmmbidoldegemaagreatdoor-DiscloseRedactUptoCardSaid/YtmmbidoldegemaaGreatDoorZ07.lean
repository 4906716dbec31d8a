/- Part 8 of a proof; no conditions. -/
import Derived.Test.YtmmbidoldegemaaGreatDoorZ06
set_option linter.all false
set_option maxRecDepth 8000
set_option maxHeartbeats 8000000
namespace Go.Proofs.YtmmbidoldegemaaGreatDoor
open Go.RowKit Go.Sl Go.Proofs.Tryz
section
variable {l:List Tk}
def JW (l:List Tk) (g f:Nat) (x:PS):Int×PS :=
 let r:=A0 l g (Al l { x with pts:=x.pts+1 } [105,102]) 0
 let b:=blockP l g f r.2
 if AS l b.2 [101,108,115,101] then
  let c:=blockP l g f (Al l b.2 [101,108,115,101])
  BA c.2 (12,x.pts,⟨[]⟩,[r.1,b.1,c.1],())
 else BA b.2 (12,x.pts,⟨[]⟩,[r.1,b.1],())
theorem XQ {g f x} (h:AS l x [105,102]=true):Ce l g (f+1) x=JW l g f x:=by rw [Ce,if_pos h];rfl
theorem Va {g f x} (h:AS l x [105,102]=false) (h2:AS l x [114,101,112,101,97,116]=true):Ce l g (f+1) x=BA (blockP l g f (AN l (Al l x [114,101,112,101,97,116])).2).2 (13,(AN l (Al l x [114,101,112,101,97,116])).1,⟨[]⟩,[(blockP l g f (AN l (Al l x [114,101,112,101,97,116])).2).1],()):=by
 rw [Ce,if_neg (by rw [h];decide),if_pos h2]
theorem PE {g f x} (h:AS l x [105,102]=false) (h2:AS l x [114,101,112,101,97,116]=false):Ce l g (f+1) x=Dl l g x:=by
 rw [Ce,if_neg (by rw [h];decide),if_neg (by rw [h2];decide)]
theorem W4 {g f x}:blockP l g (f+1) x=listP l g f (Al l x [123]) []:=by rw [blockP]
theorem TZ {g f y of} (h:0≤y.k) (h2:AS l y [125]=false):listP l g (f+1) y of=listP l g f (Ce l g f y).2 (of++[(Ce l g f y).1]):=by
 rw [listP,if_pos ⟨h,h2⟩]
theorem O3 {g f y of} (h:y.k < 0∨AS l y [125]=true):listP l g (f+1) y of=BA (Al l y [125]) (17,0,⟨[]⟩,of,()):=by
 rw [listP,if_neg];rintro ⟨h1,h2⟩;rcases h with h|h
 ·omega
 ·rw [h] at h2;cases h2
abbrev aB (l:List Tk) (g f:Nat):Prop:=∀ {S M} (w:World) (sl si sn:Sv) (cn:List Value) (x:PS),St S (.sl (Ar sn) 139 4 x.nds.length cn::M) w→RL S cn x.nds→RSl S (Ar sl) l→AL l 0 x→8 * BY l x+1≤f →
  Ac prog 61 [CI sl x.k si sn x.pts] w (De S M sl si (Ce l g f x))
abbrev SU (l:List Tk) (g f:Nat):Prop:=∀ {S M} (w:World) (sl si sn:Sv) (cn:List Value) (x:PS),St S (.sl (Ar sn) 139 4 x.nds.length cn::M) w→RL S cn x.nds→RSl S (Ar sl) l→AL l 0 x→8 * BY l x+3≤f →
  Ac prog 102 [CI sl x.k si sn x.pts] w (De S M sl si (blockP l g f x))
theorem bK {S a b c} (h:Au a) (k:Au b) (m:Au c):RL S [.int .i64 a,.int .i64 b,.int .i64 c] [a,b,c]:=RL.append (c:=[_,_]) (Iq h k) (Cw m)
theorem ZQ (hm:l.length≤1500) {g f} (hg:8 * l.length+7≤g) (hB:SU l g f) {S M} (w sl si sn cn x) (V:St S (.sl (Ar sn) 139 4 x.nds.length cn::M) w) (hR:RL S cn x.nds) (hl:RSl S (Ar sl) l) (hi:AL l 0 x) (hf:8 * BY l x+1≤f+1) (hz:AS l x [105,102]=true):
  Ac prog 101 [CI sl x.k si sn x.pts] w (De S M sl si (JW l g f x)):=by
 obtain ⟨R,hRR⟩:∃ R,JW l g f x=R:=⟨_,rfl⟩
 rw [hRR];unfold JW at hRR;simp only at hRR;have HR:=Lib.hid hRR.symm;clear hRR;have hp0:=hi.pts0;have hp1:=hi.pts1;have hP:Au x.pts:=by unfold Au;omega
 have m1:=Qw hi hz;have hpz:=Fl hz;have m0:BT x (Al l { x with pts:=x.pts+1 } [105,102]):=A9 (l:=l) { x with pts:=x.pts+1 } _;have cM:=fun {M} w (V:St S M w)=>Bv w V sl si sn { x with pts:=x.pts+1 } hl hm [105,102]
 have hs1:=fun {M} w (V:St S (.sl (Ar sn) 139 4 x.nds.length cn::M) w)=>CQ (l:=l) (x:={ x with pts:=x.pts+1 }) (s:=[105,102]) V
 have hr1:=CR (l:=l) (x:={ x with pts:=x.pts+1 }) (s:=[105,102]) hR;have r1:=Ir m0 m1.hi;have r0:=LC hpz.1 hpz.2;have cE:=fun {M} w (V:St S (.sl (Ar sn) 139 4 x.nds.length cn::M) w)=>(Oq hm g).2 w sl si sn cn (Al l { x with pts:=x.pts+1 } [105,102]) 0 (by omega) (hs1 w V) hr1 hl (m1.le (by omega)) (by have:=JN (l:=l) (Al l { x with pts:=x.pts+1 } [105,102]);omega)
 generalize Al l { x with pts:=x.pts+1 } [105,102]=y at *;have m2:=(Er (l:=l) g).1 _ _ 0 m1;have r2:=Ms ((Hy (l:=l) g).1 y 0 m1.lo).E m2.hi;generalize A0 l g y 0=r at *;clear hz hpz m0 m1 hs1 hr1 hi;unfold Ac;go_enter func101,ntmps101;repeat' ((apply ZZ 4);first|(apply O ();go_step)|(apply kc ();refine sc (cM _ V) ?_;clear V;rintro v w ⟨rfl,V⟩)|(apply kc ();refine sc (cE _ (V.move (k:=3) rfl)) ?_;clear V;rintro v w ⟨S1,sn1,cn1,hS1,rfl,hb1,hR1,V⟩<;>(try replace V:=nH V))|apply sX ()|(apply sS ();clear V;intro w V)|(apply sB ();clear V;intro bx w V)|(apply sA ();clear V;intro bk w V)|fail)
 have cB:=fun {M} w (V:St S1 (.sl (Ar sn1) 139 4 r.2.nds.length cn1::M) w)=>hB w sl si sn1 cn1 r.2 V hR1 (hl.mono hS1) (m2.le (by omega)) (by omega)
 have m3:=(ES (l:=l) g f).2.1 _ _ m2;have r3:=Ms ((Hm (l:=l) g f).2.1 r.2 m2.lo).E m3.hi;generalize blockP l g f r.2=b at *;repeat' ((apply ZZ 5);first|(apply O ();go_step)|(apply kc ();refine sc (cB _ (V.move (k:=1) rfl)) ?_;clear V;rintro v w ⟨S2,sn2,cn2,hS2,rfl,hb2,hR2,V⟩<;>(try replace V:=nH V))|apply sX ()|(apply sS ();clear V;intro w V)|(apply sA ();clear V;intro bk w V)|fail)
 clear cB cE;repeat' (first|(apply O ();go_step)|fail)
 refine Ay (vs:=[.int .i64 r.1,.int .i64 b.1]) V Y Y rfl rfl (by simp [Value.cells]) rfl (by omega) (by omega) ?_;clear V;intro xx w V;obtain ⟨ax,cx,rfl⟩:=Go.Sl.sl_formk (k:=0) V rfl;apply nW ();repeat' ((apply ZZ 6);first|(apply O ();go_step)|apply sX ()|(apply sS ();clear V;intro w V)|fail)
 have cI:=fun {M} w (V:St S2 M w)=>Cr w V sl si sn2 b.2 (hl.mono (hS1.trans hS2)) hm [101,108,115,101]
 cases hz:AS l b.2 [101,108,115,101] with
 | true =>
  rw [hz] at cI;have cM2:=fun {M} w (V:St S2 M w)=>Bv w V sl si sn2 b.2 (hl.mono (hS1.trans hS2)) hm [101,108,115,101]
  have hs2:=fun {M} w (V:St S2 (.sl (Ar sn2) 139 4 b.2.nds.length cn2::M) w)=>CQ (l:=l) (x:=b.2) (s:=[101,108,115,101]) V
  have hr2:=CR (l:=l) (x:=b.2) (s:=[101,108,115,101]) hR2;have m4:=AR (l:=l) [101,108,115,101] m3;have r4:=Ms (A9 (l:=l) b.2 [101,108,115,101]).E m4.hi;generalize Al l b.2 [101,108,115,101]=y2 at *;have cB:=fun {M} w (V:St S2 (.sl (Ar sn2) 139 4 b.2.nds.length cn2::M) w)=>hB w sl si sn2 cn2 y2 (hs2 w V) hr2 (hl.mono (hS1.trans hS2)) (m4.le (by omega)) (by omega)
  have m5:=(ES (l:=l) g f).2.1 _ _ m4;generalize blockP l g f y2=c at *;clear hr2 m4 r4;have hz:=Lib.hid hz;repeat' ((apply ZZ 8);first|(apply O ();go_step)|(apply kc ();refine sc (cI _ V) ?_;clear V;rintro v w ⟨rfl,V⟩)|(apply kc ();refine sc (cM2 _ V) ?_;clear V;rintro v w ⟨rfl,V⟩)|(apply kc ();refine sc (cB _ (V.move (k:=2) rfl)) ?_;clear V;rintro v w ⟨S3,sn3,cn3,hS3,rfl,hb3,hR3,V⟩<;>(try replace V:=nH V))|apply sX ()|(apply sS ();clear V;intro w V)|(apply sA ();clear V;intro bk w V)|fail)
  clear cB;repeat' (first|(apply O ();go_step)|apply sX ()|fail)
  refine Ay (vs:=[(.int .i64 c.1)]) V Y Y rfl rfl (by simp [Value.cells]) rfl (by omega) (by omega) ?_;clear V;intro u w V;refine nX ?_;refine AF (j:=0) V X X SlIn.h rfl Y Y Y (by simp [Value.cells,Value.oneCell']) (by omega) (by omega) (by decide) ?_;clear V;intro v' w V;refine nX ?_;(try replace V:=nH V);replace V:=V.drop;obtain ⟨ay,cy,rfl⟩:=Go.Sl.sl_formk (k:=2) V rfl;apply nW ();repeat' ((apply ZZ 10);first|(apply O ();go_step)|apply sX ()|(apply sS ();clear V;intro w V)|fail)
  obtain ⟨S4,hS4,hst2,hx⟩:=St.freeze (α:=Int) (V.move (k:=2) rfl) (bK (Ah hb1) (Ah hb2) (Ah hb3)) rfl;clear V;have V:=hst2;clear hst2;(try replace V:=nH V);have hb9:c.2.nds.length≤100000:=by have:=m5.nds;omega
  have cN:=fun {M} w (V:St S4 (.sl (Ar sn3) 139 4 c.2.nds.length cn3::M) w)=>EJ w sl si sn3 cn3 c.2 V (hR3.mono hS4) hb9 12 x.pts ⟨[]⟩ (ay,3,cy) [r.1,b.1,c.1] (GQ (Ah (by decide)) hP (by decide) hx)
  repeat' (first|(apply O ();go_step)|(apply kc ();refine sc (cN _ (V.move (k:=1) rfl)) ?_;clear V;rintro v w ⟨S5,sn5,cn5,hS5,rfl,hb5,hR5,V⟩<;>(try replace V:=nH V))|apply sX ()|(apply sS ();clear V;intro w V)|fail)
  refine Bc rfl (A8 rfl) (AZ V rfl _ N.h Y rfl rfl) ?_;(try simp only [AV,List.drop_zero,List.drop_succ_cons,List.take_succ_cons,List.take_zero,AB,Ap]);refine ⟨_,rfl,?_⟩;rw [show R=_ from HR.out.trans (if_pos hz.out)];exact ⟨S5,sn5,cn5,hS1.trans (hS2.trans (hS3.trans (hS4.trans hS5))),rfl,hb5,hR5,V.sub⟩
 | false =>
  rw [hz] at cI;have hz:=Lib.hid hz;repeat' ((apply ZZ 10);first|(apply O ();go_step)|(apply kc ();refine sc (cI _ V) ?_;clear V;rintro v w ⟨rfl,V⟩)|apply sX ()|fail)
  obtain ⟨S4,hS4,hst2,hx⟩:=St.freeze (α:=Int) (V.move (k:=0) rfl) (Iq (Ah hb1) (Ah hb2)) rfl;clear V;have V:=hst2;clear hst2;(try replace V:=nH V);have hb9:b.2.nds.length≤100000:=by have:=m3.nds;omega
  have cN:=fun {M} w (V:St S4 (.sl (Ar sn2) 139 4 b.2.nds.length cn2::M) w)=>EJ w sl si sn2 cn2 b.2 V (hR2.mono hS4) hb9 12 x.pts ⟨[]⟩ (ax,2,cx) [r.1,b.1] (GQ (Ah (by decide)) hP (by decide) hx)
  repeat' (first|(apply O ();go_step)|(apply kc ();refine sc (cN _ (V.move (k:=1) rfl)) ?_;clear V;rintro v w ⟨S5,sn5,cn5,hS5,rfl,hb5,hR5,V⟩<;>(try replace V:=nH V))|apply sX ()|(apply sS ();clear V;intro w V)|fail)
  refine Bc rfl (A8 rfl) (AZ V rfl _ N.h Y rfl rfl) ?_;(try simp only [AV,List.drop_zero,List.drop_succ_cons,List.take_succ_cons,List.take_zero,AB,Ap]);refine ⟨_,rfl,?_⟩;rw [show R=_ from HR.out.trans (if_neg (by rw [hz.out];decide))];exact ⟨S5,sn5,cn5,hS1.trans (hS2.trans (hS4.trans hS5)),rfl,hb5,hR5,V.sub⟩
end
section
variable {l:List Tk}
theorem XP (hm:l.length≤1500) {g f} (hB:SU l g f) {S M} (w sl si sn cn x) (V:St S (.sl (Ar sn) 139 4 x.nds.length cn::M) w) (hR:RL S cn x.nds) (hl:RSl S (Ar sl) l) (hi:AL l 0 x) (hf:8 * BY l x+1≤f+1) (hz:AS l x [105,102]=false) (hz2:AS l x [114,101,112,101,97,116]=true):
  Ac prog 61 [CI sl x.k si sn x.pts] w (De S M sl si (Ce l g (f+1) x)):=by
 rw [Va hz hz2];have c1:=fun {M} w (V:St S M w)=>Cr w V sl si sn x hl hm [105,102]
 rw [hz] at c1;have c2:=fun {M} w (V:St S M w)=>Cr w V sl si sn x hl hm [114,101,112,101,97,116]
 rw [hz2] at c2;have hpz:=Fl hz2;have r0:=LC hpz.1 hpz.2;have cM:=fun {M} w (V:St S M w)=>Bv w V sl si sn x hl hm [114,101,112,101,97,116]
 have cA:=fun {M} w (V:St S M w)=>FC w V sl si sn (Al l x [114,101,112,101,97,116]) hl hm
 have hs1:=fun {M} w (V:St S (.sl (Ar sn) 139 4 x.nds.length cn::M) w)=>OZ (l:=l) (CQ (l:=l) (s:=[114,101,112,101,97,116]) V)
 have hr1:=O0 (l:=l) (CR (l:=l) (s:=[114,101,112,101,97,116]) hR);have m1:=CZ (AR (l:=l) [114,101,112,101,97,116] hi);have r1:=Ir ((A9 (l:=l) x [114,101,112,101,97,116]).tr (DV (l:=l) _)) m1.hi;have hnl:=Ew hl (Al l x [114,101,112,101,97,116]);generalize Al l x [114,101,112,101,97,116]=y0 at *;generalize AN l y0=r at *;have cB:=fun {M} w (V:St S (.sl (Ar sn) 139 4 x.nds.length cn::M) w)=>hB w sl si sn cn r.2 (hs1 w V) hr1 hl (m1.le (by omega)) (by omega)
 have m3:=(ES (l:=l) g f).2.1 _ _ m1;generalize blockP l g f r.2=b at *;clear hi hz hz2 m1 hs1 hr1 r0 r1 hpz;unfold Ac;go_enter func61,ntmps61;repeat' ((apply ZZ 6);first|(apply O ();go_step)|(apply kc ();refine sc (c1 _ V) ?_;clear V;rintro v w ⟨rfl,V⟩)|(apply kc ();refine sc (c2 _ V) ?_;clear V;rintro v w ⟨rfl,V⟩)|(apply kc ();refine sc (cM _ V) ?_;clear V;rintro v w ⟨rfl,V⟩)|(apply kc ();refine sc (cA _ V) ?_;clear V;rintro v w ⟨rfl,V⟩)|(apply kc ();refine sc (cB _ (V.move (k:=3) rfl)) ?_;clear V;rintro v w ⟨S1,sn1,cn1,hS1,rfl,hb1,hR1,V⟩<;>(try replace V:=nH V))|apply sX ()|(apply sS ();clear V;intro w V)|(apply sB ();clear V;intro bx w V)|(apply sA ();clear V;intro bk w V)|fail)
 repeat' (first|(apply O ();go_step)|apply sX ()|fail)
 refine Ay (vs:=[.int .i64 b.1]) V Y Y rfl rfl (by simp [Value.cells]) rfl (by omega) (by omega) ?_;clear V;intro xx w V;obtain ⟨S2,hS2,hst2,hx⟩:=St.freeze (α:=Int) V (Cw (Ah hb1)) rfl;clear V;have V:=hst2;clear hst2;obtain ⟨ax,nx,cx,rfl⟩:=BQ hx;apply nW ();have hb3:b.2.nds.length≤100000:=by have:=m3.nds;omega
 have cN:=fun {M} w (V:St S2 (.sl (Ar sn1) 139 4 b.2.nds.length cn1::M) w)=>EJ w sl si sn1 cn1 b.2 V (hR1.mono hS2) hb3 13 r.1 ⟨[]⟩ (ax,nx,cx) [b.1] (GQ (Ah (by decide)) hnl (by decide) hx)
 repeat' (first|(apply O ();go_step)|(apply kc ();refine sc (cN _ (V.move (k:=1) rfl)) ?_;clear V;rintro v w ⟨S3,sn3,cn3,hS3,rfl,hb3,hR3,V⟩<;>(try replace V:=nH V))|(apply sS ();clear V;intro w V)|fail)
 apply kq ()
theorem U9 (hm:l.length≤1500) {g f} (hg:8 * l.length+7≤g) (hB:SU l g f):aB l g (f+1):=fun {S M} w sl si sn cn x V hR hl hi hf=>by
 cases hz:AS l x [105,102] with
 | true =>
  rw [XQ hz];have c1:=fun {M} w (V:St S M w)=>Cr w V sl si sn x hl hm [105,102]
  rw [hz] at c1;have cB:=fun {M} w (V:St S (.sl (Ar sn) 139 4 x.nds.length cn::M) w)=>ZQ hm hg hB w sl si sn cn x V hR hl hi hf hz
  generalize JW l g f x=r at *;clear hi hz hf hB;unfold Ac;go_enter func61,ntmps61;repeat' (first|(apply O ();go_step)|(apply kc ();refine sc (c1 _ V) ?_;clear V;rintro v w ⟨rfl,V⟩)|(apply kc ();refine sc (cB _ (V.move (k:=2) rfl)) ?_;clear V;rintro v w ⟨S1,sn1,cn1,hS1,rfl,hb1,hR1,V⟩<;>(try replace V:=nH V))|apply sX ()|(apply sS ();clear V;intro w V)|(apply sB ();clear V;intro bx w V)|(apply sA ();clear V;intro bk w V)|fail)
  apply Xb ()
 | false =>
  cases hz2:AS l x [114,101,112,101,97,116] with
  | true=>exact XP hm hB w sl si sn cn x V hR hl hi hf hz hz2
  | false =>
   rw [PE hz hz2];have c1:=fun {M} w (V:St S M w)=>Cr w V sl si sn x hl hm [105,102]
   rw [hz] at c1;have c2:=fun {M} w (V:St S M w)=>Cr w V sl si sn x hl hm [114,101,112,101,97,116]
   rw [hz2] at c2;have cB:=fun {M} w (V:St S (.sl (Ar sn) 139 4 x.nds.length cn::M) w)=>X5 hm hg w sl si sn cn x V hR hl hi
   generalize Dl l g x=r at *;clear hi hz hf hB hz2;unfold Ac;go_enter func61,ntmps61;repeat' (first|(apply O ();go_step)|(apply kc ();refine sc (c1 _ V) ?_;clear V;rintro v w ⟨rfl,V⟩)|(apply kc ();refine sc (c2 _ V) ?_;clear V;rintro v w ⟨rfl,V⟩)|(apply kc ();refine sc (cB _ (V.move (k:=2) rfl)) ?_;clear V;rintro v w ⟨S1,sn1,cn1,hS1,rfl,hb1,hR1,V⟩<;>(try replace V:=nH V))|apply sX ()|(apply sS ();clear V;intro w V)|(apply sB ();clear V;intro bx w V)|(apply sA ();clear V;intro bk w V)|fail)
   apply Xb ()
theorem Mw {n:Nat} {a b:Int} (h:0≤a) (ha:a≤n) (h2:b = -1∨a < b) (hb:b≤n):Jd n b < Jd n a:=by
 unfold Jd;rw [if_neg (show ¬ a < 0 by omega)];split<;>omega
theorem PX {x y} (h:BT x y) (hy:y.k≤l.length) (h0:0≤y.k):BY l y+1≤BY l x:=by
 unfold BT at h;unfold BY;rw [if_neg (by omega),if_neg (by omega)];omega
theorem Uz (hm:l.length≤1500) {g f} (hS:∀ h,h≤f→aB l g h):SU l g (f+1):=fun {S M} w sl si sn cn x V hR hl hi hf=>by
 rw [W4];have cM:=fun {M} w (V:St S M w)=>Bv w V sl si sn x hl hm [123]
 have hs1:=fun {M} w (V:St S (.sl (Ar sn) 139 4 x.nds.length cn::M) w)=>CQ (l:=l) (s:=[123]) V
 have hr1:=CR (l:=l) (s:=[123]) hR;have m1:=AR (l:=l) [123] hi
 have hF:2≤f∧((Al l x [123]).k < 0∨8 * BY l (Al l x [123])+4≤f):=by
  by_cases h:(Al l x [123]).k < 0
  ·exact ⟨by omega,.inl h⟩
  ·have:=PX (A9 (l:=l) x [123]) m1.hi (by omega);exact ⟨by omega,.inr (by omega)⟩
 generalize Al l x [123]=y at *;obtain ⟨R,hRR⟩:∃ R,listP l g f y []=R:=⟨_,rfl⟩
 rw [hRR];have HR:=Lib.hid hRR;clear hRR hi hR hf;unfold Ac;go_enter func102,ntmps102;repeat' ((apply ZZ 1);first|(apply O ();go_step)|(apply sB ();clear V;intro bx w V)|(apply sA ();clear V;intro bk w V)|fail)
 obtain ⟨b3,rfl⟩:∃ b,b=bk:=⟨_,rfl⟩
 repeat' ((apply ZZ 2);first|(apply O ();go_step)|(apply kc ();refine sc (cM _ V) ?_;clear V;rintro v w ⟨rfl,V⟩)|apply sX ()|(apply sS ();clear V;intro w V)|(apply sA ();clear V;intro bk w V)|fail)
 obtain ⟨b4,rfl⟩:∃ b,b=bk:=⟨_,rfl⟩
 repeat' ((apply ZZ 3);first|(apply O ();go_step)|(apply sS ();clear V;intro w V)|(apply sA ();clear V;intro bk w V)|fail)
 replace V:=(V.move (k:=4) rfl).nil 3 1;(try replace V:=nH V)
 go_loopw [6] (fun _ wr=>∃ (h:Nat) (y:PS) (of:List Int) (T:Ad) (sn' so:Sv) (cn' co:List Value),S.Le T∧Hid (listP l g h y of=R)∧AL l 1 y∧(2≤h∧h≤f∧(y.k < 0∨8 * BY l y+4≤h))∧(of.length≤l.length+1∧(0≤y.k→(of.length:Int)≤y.k))∧RL T cn' y.nds∧RL T co of∧St T (.sl (Ar so) 3 1 of.length co::.sl (Ar sn') 139 4 y.nds.length cn'::.box bk [.int .i64 17,.int .i64 0,.string ⟨#[]⟩,.slice so.1 so.2.1 so.2.2] 139::.box b4 (Pj sl y.k si sn' y.pts) 132::.box b3 (Pj (none,0,0) 0 (none,0,0) (none,0,0) 0) 132::.box bx (Pj sl x.k si sn x.pts) 132::M) wr) (fun _ wr=>Jd l.length (Sn wr (.pointer (some ⟨b4,0,none⟩))))
 case atStart=>exact ⟨f,y,[],S,sn,(none,0,0),cn,[],.refl _,HR,m1,⟨hF.1,Nat.le_refl _,hF.2⟩,⟨Nat.zero_le _,fun h=>h⟩,hr1,RL.nil,(hs1 _ V.swap).swap⟩
 case round =>
  clear V hr1 m1 HR hF cM hs1;obtain ⟨h,y,of,T,sn',so,cn',co,hT,HR,hi,hF,hol,hR,hO,V⟩:=hrel;have hk0:=Lib.hid (Hx (o:=0) (i:=3) V rfl);have cI:=fun {M} w (V:St T M w)=>Cr w V sl si sn' y (hl.mono hT) hm [125]
  obtain ⟨h,rfl⟩:∃ h',h=h'+1:=⟨h - 1,by omega⟩
  by_cases hk:y.k < 0
  ·have hz:(y.k < 0∨AS l y [125]=true):=.inl hk;have HQ:=Lib.hid (HR.out.symm.trans (O3 hz));clear HR;repeat' ((apply ZZ 7);first|apply sG ()|(with_reducible refine Sl.k_guard ?_;refine Sl.guard_cases rfl ?_ ?_<;>intro hg<;>first|exact gX|(simp only [hg,Bool.not_true,Bool.not_false])<;>(try replace hg:=gN hg)<;>apply nW ())|(apply O ();go_step)|apply sX ()|fail)
   apply b7 ()
  ·cases hz:AS l y [125] with
   | true =>
    rw [hz] at cI;have HQ:=Lib.hid (HR.out.symm.trans (O3 (.inr hz)));clear HR;repeat' ((apply ZZ 7);first|apply sG ()|(with_reducible refine Sl.k_guard ?_;refine Sl.guard_cases rfl ?_ ?_<;>intro hg<;>first|exact gX|(simp only [hg,Bool.not_true,Bool.not_false])<;>(try replace hg:=gN hg)<;>apply nW ())|(apply O ();go_step)|(apply kc ();refine sc (cI _ V) ?_;clear V;rintro v w ⟨rfl,V⟩)|apply sX ()|fail)
    apply b7 ()
   | false =>
    rw [hz] at cI;have L:0≤y.k:=by omega
    have HL:=Lib.hid (TZ (g:=g) (f:=h) (of:=of) L hz);have cS:=fun {M} w (V:St T (.sl (Ar sn') 139 4 y.nds.length cn'::M) w)=>hS h (by omega) w sl si sn' cn' y V hR (hl.mono hT) (hi.le (by omega)) (by omega)
    have m3:=(ES (l:=l) g h).1 _ _ hi;have m4:=(Hm (l:=l) g h).1 y hi.lo
    have m5:∀ z:PS,BT y z→z.k≤l.length→(z.k < 0∨8 * BY l z+4≤h):=fun z a1 a2=>by
     by_cases hz:z.k < 0
     ·exact .inl hz
     ·have:=PX a1 a2 (by omega);exact .inr (by omega)
    have m6:=m5 _ m4 m3.hi;have hh2:2≤h:=by omega
    generalize Ce l g h y=q at *;have N4:=Lib.hid m4;have M3:=Lib.hid m3;have hlo:=hol.1;have hlo3:=hi.hi;have hlo2:=hol.2 L;have hq1:=m3.hi
    have HO:Hid (∀ n:Nat,n=of.length+1→n≤l.length+1∧(0≤q.2.k→(n:Int)≤q.2.k)):=Lib.hid (by
     intro n hn;have:=hi.hi;unfold BT at m4;exact ⟨by omega,fun h=>by omega⟩)
    clear m3 m4 m5 hq1 hz hi;have hone:=Go.Sl.AY V;repeat' ((apply ZZ 5);first|apply sG ()|(apply O ();go_step)|(apply kc ();refine sc (cI _ V) ?_;clear V;rintro v w ⟨rfl,V⟩)|(apply kc ();refine sc (cS _ (V.move (k:=1) rfl)) ?_;clear V;rintro v w ⟨S2,sn2,cn2,hS2,rfl,hb2,hR2,V⟩<;>(try replace V:=nH V))|apply sX ()|(apply sS ();clear V;intro w V)|(apply sA ();clear V;intro bk w V)|fail)
    repeat' (first|(apply O ();go_step)|apply sX ()|fail)
    refine Ay (vs:=[(.int .i64 q.1)]) V Y Y rfl rfl (by simp [Value.cells]) rfl (by omega) (by omega) ?_;clear V;intro u w V;refine nX ?_;refine AF (j:=0) V X X SlIn.h rfl Y Y Y (by simp [Value.cells,Value.oneCell']) (by omega) (by omega) (by decide) ?_;clear V;intro v' w V;refine nX ?_;(try replace V:=nH V);replace V:=V.drop;obtain ⟨ay,cy,rfl⟩:=Go.Sl.sl_formk (k:=2) V rfl;apply nW ();repeat' (first|(apply O ();go_step)|apply sX ()|(apply sS ();clear V;intro w V)|fail)
    go_roundw
    case rel=>exact ⟨h,q.2,of++[q.1],S2,sn2,(ay,of.length+1,cy),cn2,co++[.int .i64 q.1],hT.trans hS2,Lib.hid (HL.out.symm.trans HR.out),M3.out,⟨hh2,by omega,m6⟩,HO.out _ (by simp),hR2,(hO.mono hS2).append (Cw (Ah hb2)),by simpa using St.swap V.sub⟩
    case measure =>
     have h1:=Hx (o:=0) (i:=4) V rfl;rw [hk0.out,h1];have h2:=N4.out;unfold BT at h2;have h3:=M3.out.hi;exact Mw L hlo3 (by omega) h3
theorem aQ (hm:l.length≤1500) {g} (hg:8 * l.length+7≤g):∀ f,aB l g f∧SU l g f:=by
 have H:∀ n f,f≤n→aB l g f∧SU l g f:=by
  intro n
  induction n with
  | zero =>
   intro f hf;obtain rfl:f=0:=by omega
   exact ⟨fun w sl si sn cn x _ _ _ _ h=>absurd h (by omega),fun w sl si sn cn x _ _ _ _ h=>absurd h (by omega)⟩
  | succ n ih =>
   intro f hf;by_cases h:f≤n
   ·exact ih f h
   ·obtain rfl:f=n+1:=by omega
    exact ⟨U9 hm hg (ih n (Nat.le_refl _)).2,Uz hm fun h hh=>(ih h hh).1⟩
 exact fun f=>H f f (Nat.le_refl _)
end
theorem TD {S kd n m s} (h1:s.b.length≤maxLen) (h2:Au kd) (h3:Au n) (h4:Au m):Z.R S [.string ⟨s.b.toArray⟩,.int .i64 kd,.int .i64 n,.int .i64 m] ((s,kd,n,m,()):Ip) :=
 AG (cs:=[_]) ⟨rfl,h1⟩ (AG (cs:=[_]) ⟨rfl,h2⟩ (AG (cs:=[_]) ⟨rfl,h3⟩ (AG (cs:=[_]) ⟨rfl,h4⟩ CM)))
section
variable {l:List Tk}
theorem JS (x):(Dd l x).2.nds=x.nds∧(Dd l x).2.pts=x.pts∧(Dd l x).2.ins=x.ins:=by
 unfold Dd;simp only;split
 ·simp only [(B7 (l:=l) _).1,(B7 (l:=l) _).2.1,(B7 (l:=l) _).2.2,By,Ht,Bt,(CP (l:=l) _).1,(CP (l:=l) _).2.1,(CP (l:=l) _).2.2,and_self]
 ·split
  ·simp only [(B7 (l:=l) _).1,(B7 (l:=l) _).2.1,(B7 (l:=l) _).2.2,By,Ht,Bt,(CP (l:=l) _).1,(CP (l:=l) _).2.1,(CP (l:=l) _).2.2,and_self]
  ·split
   ·simp only [By,Ht,Bt,(CP (l:=l) _).1,(CP (l:=l) _).2.1,(CP (l:=l) _).2.2,and_self]
   ·simp only [(B7 (l:=l) _).1,(B7 (l:=l) _).2.1,(B7 (l:=l) _).2.2,By,Ht,Bt,(CP (l:=l) _).1,(CP (l:=l) _).2.1,(CP (l:=l) _).2.2,and_self]
theorem Zm {s x} (h:AL l s x):AL l s (Dd l x).2:=by
 have h0:=Jb (AR (l:=l) [105,110,112,117,116] h);unfold Dd;simp only;split
 ·exact (CZ (AR _ h0)).le (Nat.le_add_right s 4)
 ·split
  ·exact (CZ (CZ (AR _ h0))).le (Nat.le_add_right s 5)
  ·split
   ·exact (AR _ h0).le (Nat.le_add_right s 3)
   ·exact (CZ (AR _ h0)).le (Nat.le_add_right s 4)
theorem Zn (x):BT x (Dd l x).2:=by
 have h0:BT x (AM l (Al l x [105,110,112,117,116])).2:=(A9 _ _).tr (K5 _);unfold Dd;simp only;split
 ·exact (h0.tr (A9 _ _)).tr (DV _)
 ·split
  ·exact ((h0.tr (A9 _ _)).tr (DV _)).tr (DV _)
  ·split
   ·exact h0.tr (A9 _ _)
   ·exact (h0.tr (A9 _ _)).tr (DV _)
theorem Ny {s x} (h:AL l s x):AL l s (C8 l x):=by
 have h0:AL l s { (Dd l x).2 with ins:=(Dd l x).2.ins++[(Dd l x).1] }:=Zm h;exact (AR _ h0).le (Nat.le_add_right s 1)
theorem Ue (x):BT x (C8 l x):=by
 have h0:BT x { (Dd l x).2 with ins:=(Dd l x).2.ins++[(Dd l x).1] }:=Zn x;exact h0.tr (A9 _ _)
theorem Nx (x):(C8 l x).nds=x.nds:=(By _ _).trans (JS x).1
theorem Nz (x):(C8 l x).ins=x.ins++[(Dd l x).1]:=(Bt _ _).trans (by show (Dd l x).2.ins++_=_;rw [(JS x).2.2])
abbrev NS (S:Ad) (M:List J) (sl sn:Sv) (r:PS) (v:Value) (w:World):Prop :=
 ∃ si ci,v=CI sl r.k si sn r.pts∧RL S ci r.ins∧St S (.sl (Ar si) 97 4 r.ins.length ci::M) w
theorem Rw (hm:l.length≤1500) {S M} (w sl si sn ci x) (V:St S (.sl (Ar si) 97 4 x.ins.length ci::M) w) (hR:RL S ci x.ins) (hb:x.ins.length≤100000) (hl:RSl S (Ar sl) l) (hz:AS l (AM l (Al l x [105,110,112,117,116])).2 [115,116,114,97,112]=true):
  Ac prog 60 [CI sl x.k si sn x.pts] w (NS S M sl sn (C8 l x)):=by
 have e0:Dd l x=_:=if_pos hz;obtain ⟨k1,k2,k3⟩:=JS (l:=l) x;unfold C8;have c1:=fun {M} w (V:St S M w)=>Cr w V sl si sn (AM l (Al l x [105,110,112,117,116])).2 hl hm [115,116,114,97,112]
 rw [hz] at c1;have cM:=fun {M} w (V:St S M w)=>Bv w V sl si sn x hl hm [105,110,112,117,116]
 have cA:=fun {M} w (V:St S M w)=>Iu w V sl si sn (Al l x [105,110,112,117,116]) hl hm
 have hnl:=Gj hl (Al l x [105,110,112,117,116]);have cB:=fun {M} w (V:St S M w)=>Bv w V sl si sn (AM l (Al l x [105,110,112,117,116])).2 hl hm [115,116,114,97,112]
 have cC:=fun {M} w (V:St S M w)=>FC w V sl si sn (Al l (AM l (Al l x [105,110,112,117,116])).2 [115,116,114,97,112]) hl hm
 have hn1:=Ew hl (Al l (AM l (Al l x [105,110,112,117,116])).2 [115,116,114,97,112]);generalize Al l x [105,110,112,117,116]=y0 at *;generalize AM l y0=y1 at *;generalize Al l y1.2 [115,116,114,97,112]=y2 at *;generalize AN l y2=y3 at *;rw [show Dd l x=((y1.1,1,y3.1,0,()),y3.2) from e0] at k3 ⊢;simp only at k3 ⊢;have hI:(({ y3.2 with ins:=y3.2.ins++[(y1.1,1,y3.1,0,())] }:PS)).ins=x.ins++[(y1.1,1,y3.1,0,())]:=by show y3.2.ins++_=_;rw [k3]
 have G:(({ y3.2 with ins:=y3.2.ins++[(y1.1,1,y3.1,0,())] }:PS)).k=y3.2.k:=rfl;have hP:(({ y3.2 with ins:=y3.2.ins++[(y1.1,1,y3.1,0,())] }:PS)).pts=y3.2.pts:=rfl;generalize ({ y3.2 with ins:=y3.2.ins++[(y1.1,1,y3.1,0,())] }:PS)=z at *;have hZi:=Lib.hid ((Bt (l:=l) z [59]).trans hI);have cE:=fun {M} w (V:St S M w) (si:Sv)=>Bv w V sl si sn z hl hm [59]
 rw [G,hP] at cE;clear e0 k1 k2 k3 hI G hP;clear hz;unfold Ac;go_enter func60,ntmps60;repeat' ((apply ZZ 16);first|(apply O ();go_step)|(apply kc ();refine sc (cM _ V) ?_;clear V;rintro v w ⟨rfl,V⟩)|(apply kc ();refine sc (cA _ V) ?_;clear V;rintro v w ⟨rfl,V⟩)|(apply kc ();refine sc (c1 _ V) ?_;clear V;rintro v w ⟨rfl,V⟩)|(apply kc ();refine sc (cB _ V) ?_;clear V;rintro v w ⟨rfl,V⟩)|(apply kc ();refine sc (cC _ V) ?_;clear V;rintro v w ⟨rfl,V⟩)|apply sX ()|(apply sS ();clear V;intro w V)|(apply sB ();clear V;intro bx w V)|(apply sA ();clear V;intro bk w V)|fail)
 repeat' (first|(apply O ();go_step)|apply sX ()|fail)
 refine Ay (vs:=[(.agg #[.string ⟨y1.1.b.toArray⟩,.int .i64 1,.int .i64 y3.1,.int .i64 0])]) V Y Y rfl rfl (by simp [Value.cells]) rfl (by omega) (by omega) ?_;clear V;intro u w V;refine nX ?_;refine AF (j:=0) V X X SlIn.h rfl Y Y Y (by simp [Value.cells,Value.oneCell']) (by omega) (by omega) (by decide) ?_;clear V;intro v' w V;refine nX ?_;(try replace V:=nH V);replace V:=V.drop;obtain ⟨ay,cy,rfl⟩:=Go.Sl.sl_formk (k:=4) V rfl;apply nW ();have cF:=fun {M} w (V:St S M w)=>cE w V (ay,x.ins.length+1,cy)
 clear cE;repeat' (first|(apply O ();go_step)|(apply kc ();refine sc (cF _ V) ?_;clear V;rintro v w ⟨rfl,V⟩)|apply sX ()|(apply sS ();clear V;intro w V)|fail)
 refine Bl rfl V rfl 2 rfl inferInstance rfl rfl ?_;refine ⟨_,rfl,(ay,x.ins.length+1,cy),ci++[.string ⟨y1.1.b.toArray⟩,.int .i64 1,.int .i64 y3.1,.int .i64 0],rfl,?_,?_⟩
 ·rw [hZi.out];exact hR.append (RL.one_mk (TD hnl (Ah (by decide)) hn1 (Ah (by decide))))
 ·rw [hZi.out];have:=V.drop.drop.drop.drop
  simpa using this
theorem Ud (hm:l.length≤1500) {S M} (w sl si sn ci x) (V:St S (.sl (Ar si) 97 4 x.ins.length ci::M) w) (hR:RL S ci x.ins) (hb:x.ins.length≤100000) (hl:RSl S (Ar sl) l) (hz:AS l (AM l (Al l x [105,110,112,117,116])).2 [115,116,114,97,112]=false) (hz2:AS l (AM l (Al l x [105,110,112,117,116])).2 [102,117,115,101]=true):
  Ac prog 60 [CI sl x.k si sn x.pts] w (NS S M sl sn (C8 l x)):=by
 have e0:Dd l x=_:=(if_neg (by rw [hz];decide)).trans (if_pos hz2);simp only at e0;obtain ⟨k1,k2,k3⟩:=JS (l:=l) x;unfold C8;have c1:=fun {M} w (V:St S M w)=>Cr w V sl si sn (AM l (Al l x [105,110,112,117,116])).2 hl hm [115,116,114,97,112]
 rw [hz] at c1;have c2:=fun {M} w (V:St S M w)=>Cr w V sl si sn (AM l (Al l x [105,110,112,117,116])).2 hl hm [102,117,115,101]
 rw [hz2] at c2;have cM:=fun {M} w (V:St S M w)=>Bv w V sl si sn x hl hm [105,110,112,117,116]
 have cA:=fun {M} w (V:St S M w)=>Iu w V sl si sn (Al l x [105,110,112,117,116]) hl hm
 have hnl:=Gj hl (Al l x [105,110,112,117,116]);have cB:=fun {M} w (V:St S M w)=>Bv w V sl si sn (AM l (Al l x [105,110,112,117,116])).2 hl hm [102,117,115,101]
 have cC:=fun {M} w (V:St S M w)=>FC w V sl si sn (Al l (AM l (Al l x [105,110,112,117,116])).2 [102,117,115,101]) hl hm
 have hn1:=Ew hl (Al l (AM l (Al l x [105,110,112,117,116])).2 [102,117,115,101]);have cD:=fun {M} w (V:St S M w)=>FC w V sl si sn (AN l (Al l (AM l (Al l x [105,110,112,117,116])).2 [102,117,115,101])).2 hl hm
 have hn2:=Ew hl (AN l (Al l (AM l (Al l x [105,110,112,117,116])).2 [102,117,115,101])).2;generalize Al l x [105,110,112,117,116]=y0 at *;generalize AM l y0=y1 at *;generalize Al l y1.2 [102,117,115,101]=y2 at *;generalize AN l y2=y3 at *;generalize AN l y3.2=y4 at *;rw [show Dd l x=((y1.1,2,y3.1,y4.1,()),y4.2) from e0] at k3 ⊢;simp only at k3 ⊢;have hI:(({ y4.2 with ins:=y4.2.ins++[(y1.1,2,y3.1,y4.1,())] }:PS)).ins=x.ins++[(y1.1,2,y3.1,y4.1,())]:=by show y4.2.ins++_=_;rw [k3]
 have G:(({ y4.2 with ins:=y4.2.ins++[(y1.1,2,y3.1,y4.1,())] }:PS)).k=y4.2.k:=rfl;have hP:(({ y4.2 with ins:=y4.2.ins++[(y1.1,2,y3.1,y4.1,())] }:PS)).pts=y4.2.pts:=rfl;generalize ({ y4.2 with ins:=y4.2.ins++[(y1.1,2,y3.1,y4.1,())] }:PS)=z at *;have hZi:=Lib.hid ((Bt (l:=l) z [59]).trans hI);have cE:=fun {M} w (V:St S M w) (si:Sv)=>Bv w V sl si sn z hl hm [59]
 rw [G,hP] at cE;clear e0 k1 k2 k3 hI G hP;clear hz hz2;unfold Ac;go_enter func60,ntmps60;repeat' ((apply ZZ 16);first|(apply O ();go_step)|(apply kc ();refine sc (cM _ V) ?_;clear V;rintro v w ⟨rfl,V⟩)|(apply kc ();refine sc (cA _ V) ?_;clear V;rintro v w ⟨rfl,V⟩)|(apply kc ();refine sc (c1 _ V) ?_;clear V;rintro v w ⟨rfl,V⟩)|(apply kc ();refine sc (c2 _ V) ?_;clear V;rintro v w ⟨rfl,V⟩)|(apply kc ();refine sc (cB _ V) ?_;clear V;rintro v w ⟨rfl,V⟩)|(apply kc ();refine sc (cC _ V) ?_;clear V;rintro v w ⟨rfl,V⟩)|(apply kc ();refine sc (cD _ V) ?_;clear V;rintro v w ⟨rfl,V⟩)|apply sX ()|(apply sS ();clear V;intro w V)|(apply sB ();clear V;intro bx w V)|(apply sA ();clear V;intro bk w V)|fail)
 repeat' (first|(apply O ();go_step)|apply sX ()|fail)
 refine Ay (vs:=[(.agg #[.string ⟨y1.1.b.toArray⟩,.int .i64 2,.int .i64 y3.1,.int .i64 y4.1])]) V Y Y rfl rfl (by simp [Value.cells]) rfl (by omega) (by omega) ?_;clear V;intro u w V;refine nX ?_;refine AF (j:=0) V X X SlIn.h rfl Y Y Y (by simp [Value.cells,Value.oneCell']) (by omega) (by omega) (by decide) ?_;clear V;intro v' w V;refine nX ?_;(try replace V:=nH V);replace V:=V.drop;obtain ⟨ay,cy,rfl⟩:=Go.Sl.sl_formk (k:=4) V rfl;apply nW ();have cF:=fun {M} w (V:St S M w)=>cE w V (ay,x.ins.length+1,cy)
 clear cE;repeat' (first|(apply O ();go_step)|(apply kc ();refine sc (cF _ V) ?_;clear V;rintro v w ⟨rfl,V⟩)|apply sX ()|(apply sS ();clear V;intro w V)|fail)
 refine Bl rfl V rfl 2 rfl inferInstance rfl rfl ?_;refine ⟨_,rfl,(ay,x.ins.length+1,cy),ci++[.string ⟨y1.1.b.toArray⟩,.int .i64 2,.int .i64 y3.1,.int .i64 y4.1],rfl,?_,?_⟩
 ·rw [hZi.out];exact hR.append (RL.one_mk (TD hnl (Ah (by decide)) hn1 hn2))
 ·rw [hZi.out];have:=V.drop.drop.drop.drop
  simpa using this
theorem Ub (hm:l.length≤1500) {S M} (w sl si sn ci x) (V:St S (.sl (Ar si) 97 4 x.ins.length ci::M) w) (hR:RL S ci x.ins) (hb:x.ins.length≤100000) (hl:RSl S (Ar sl) l) (hz:AS l (AM l (Al l x [105,110,112,117,116])).2 [115,116,114,97,112]=false) (hz2:AS l (AM l (Al l x [105,110,112,117,116])).2 [102,117,115,101]=false) (hz3:AS l (AM l (Al l x [105,110,112,117,116])).2 [115,108,111,116]=true):
  Ac prog 60 [CI sl x.k si sn x.pts] w (NS S M sl sn (C8 l x)):=by
 have e0:Dd l x=_:=(if_neg (by rw [hz];decide)).trans ((if_neg (by rw [hz2];decide)).trans (if_pos hz3));obtain ⟨k1,k2,k3⟩:=JS (l:=l) x;unfold C8;have c1:=fun {M} w (V:St S M w)=>Cr w V sl si sn (AM l (Al l x [105,110,112,117,116])).2 hl hm [115,116,114,97,112]
 rw [hz] at c1;have c2:=fun {M} w (V:St S M w)=>Cr w V sl si sn (AM l (Al l x [105,110,112,117,116])).2 hl hm [102,117,115,101]
 rw [hz2] at c2;have c3:=fun {M} w (V:St S M w)=>Cr w V sl si sn (AM l (Al l x [105,110,112,117,116])).2 hl hm [115,108,111,116]
 rw [hz3] at c3;have cM:=fun {M} w (V:St S M w)=>Bv w V sl si sn x hl hm [105,110,112,117,116]
 have cA:=fun {M} w (V:St S M w)=>Iu w V sl si sn (Al l x [105,110,112,117,116]) hl hm
 have hnl:=Gj hl (Al l x [105,110,112,117,116]);have cB:=fun {M} w (V:St S M w)=>Bv w V sl si sn (AM l (Al l x [105,110,112,117,116])).2 hl hm [115,108,111,116]
 generalize Al l x [105,110,112,117,116]=y0 at *;generalize AM l y0=y1 at *;generalize Al l y1.2 [115,108,111,116]=y2 at *;rw [show Dd l x=((y1.1,3,0,0,()),y2) from e0] at k3 ⊢;simp only at k3 ⊢;have hI:(({ y2 with ins:=y2.ins++[(y1.1,3,0,0,())] }:PS)).ins=x.ins++[(y1.1,3,0,0,())]:=by show y2.ins++_=_;rw [k3]
 have G:(({ y2 with ins:=y2.ins++[(y1.1,3,0,0,())] }:PS)).k=y2.k:=rfl;have hP:(({ y2 with ins:=y2.ins++[(y1.1,3,0,0,())] }:PS)).pts=y2.pts:=rfl;generalize ({ y2 with ins:=y2.ins++[(y1.1,3,0,0,())] }:PS)=z at *;have hZi:=Lib.hid ((Bt (l:=l) z [59]).trans hI);have cE:=fun {M} w (V:St S M w) (si:Sv)=>Bv w V sl si sn z hl hm [59]
 rw [G,hP] at cE;clear e0 k1 k2 k3 hI G hP;clear hz hz2 hz3;unfold Ac;go_enter func60,ntmps60;repeat' ((apply ZZ 16);first|(apply O ();go_step)|(apply kc ();refine sc (cM _ V) ?_;clear V;rintro v w ⟨rfl,V⟩)|(apply kc ();refine sc (cA _ V) ?_;clear V;rintro v w ⟨rfl,V⟩)|(apply kc ();refine sc (c1 _ V) ?_;clear V;rintro v w ⟨rfl,V⟩)|(apply kc ();refine sc (c2 _ V) ?_;clear V;rintro v w ⟨rfl,V⟩)|(apply kc ();refine sc (c3 _ V) ?_;clear V;rintro v w ⟨rfl,V⟩)|(apply kc ();refine sc (cB _ V) ?_;clear V;rintro v w ⟨rfl,V⟩)|apply sX ()|(apply sS ();clear V;intro w V)|(apply sB ();clear V;intro bx w V)|(apply sA ();clear V;intro bk w V)|fail)
 repeat' (first|(apply O ();go_step)|apply sX ()|fail)
 refine Ay (vs:=[(.agg #[.string ⟨y1.1.b.toArray⟩,.int .i64 3,.int .i64 0,.int .i64 0])]) V Y Y rfl rfl (by simp [Value.cells]) rfl (by omega) (by omega) ?_;clear V;intro u w V;refine nX ?_;refine AF (j:=0) V X X SlIn.h rfl Y Y Y (by simp [Value.cells,Value.oneCell']) (by omega) (by omega) (by decide) ?_;clear V;intro v' w V;refine nX ?_;(try replace V:=nH V);replace V:=V.drop;obtain ⟨ay,cy,rfl⟩:=Go.Sl.sl_formk (k:=4) V rfl;apply nW ();have cF:=fun {M} w (V:St S M w)=>cE w V (ay,x.ins.length+1,cy)
 clear cE;repeat' (first|(apply O ();go_step)|(apply kc ();refine sc (cF _ V) ?_;clear V;rintro v w ⟨rfl,V⟩)|apply sX ()|(apply sS ();clear V;intro w V)|fail)
 refine Bl rfl V rfl 2 rfl inferInstance rfl rfl ?_;refine ⟨_,rfl,(ay,x.ins.length+1,cy),ci++[.string ⟨y1.1.b.toArray⟩,.int .i64 3,.int .i64 0,.int .i64 0],rfl,?_,?_⟩
 ·rw [hZi.out];exact hR.append (RL.one_mk (TD hnl (Ah (by decide)) (Ah (by decide)) (Ah (by decide))))
 ·rw [hZi.out];have:=V.drop.drop.drop.drop
  simpa using this
theorem Uc (hm:l.length≤1500) {S M} (w sl si sn ci x) (V:St S (.sl (Ar si) 97 4 x.ins.length ci::M) w) (hR:RL S ci x.ins) (hb:x.ins.length≤100000) (hl:RSl S (Ar sl) l) (hz:AS l (AM l (Al l x [105,110,112,117,116])).2 [115,116,114,97,112]=false) (hz2:AS l (AM l (Al l x [105,110,112,117,116])).2 [102,117,115,101]=false) (hz3:AS l (AM l (Al l x [105,110,112,117,116])).2 [115,108,111,116]=false):
  Ac prog 60 [CI sl x.k si sn x.pts] w (NS S M sl sn (C8 l x)):=by
 have e0:Dd l x=_:=(if_neg (by rw [hz];decide)).trans ((if_neg (by rw [hz2];decide)).trans (if_neg (by rw [hz3];decide)));obtain ⟨k1,k2,k3⟩:=JS (l:=l) x;unfold C8;have c1:=fun {M} w (V:St S M w)=>Cr w V sl si sn (AM l (Al l x [105,110,112,117,116])).2 hl hm [115,116,114,97,112]
 rw [hz] at c1;have c2:=fun {M} w (V:St S M w)=>Cr w V sl si sn (AM l (Al l x [105,110,112,117,116])).2 hl hm [102,117,115,101]
 rw [hz2] at c2;have c3:=fun {M} w (V:St S M w)=>Cr w V sl si sn (AM l (Al l x [105,110,112,117,116])).2 hl hm [115,108,111,116]
 rw [hz3] at c3;have cM:=fun {M} w (V:St S M w)=>Bv w V sl si sn x hl hm [105,110,112,117,116]
 have cA:=fun {M} w (V:St S M w)=>Iu w V sl si sn (Al l x [105,110,112,117,116]) hl hm
 have hnl:=Gj hl (Al l x [105,110,112,117,116]);have cB:=fun {M} w (V:St S M w)=>Bv w V sl si sn (AM l (Al l x [105,110,112,117,116])).2 hl hm [109,97,105,108]
 have cC:=fun {M} w (V:St S M w)=>FC w V sl si sn (Al l (AM l (Al l x [105,110,112,117,116])).2 [109,97,105,108]) hl hm
 have hn1:=Ew hl (Al l (AM l (Al l x [105,110,112,117,116])).2 [109,97,105,108]);generalize Al l x [105,110,112,117,116]=y0 at *;generalize AM l y0=y1 at *;generalize Al l y1.2 [109,97,105,108]=y2 at *;generalize AN l y2=y3 at *;rw [show Dd l x=((y1.1,4,0,y3.1,()),y3.2) from e0] at k3 ⊢;simp only at k3 ⊢;have hI:(({ y3.2 with ins:=y3.2.ins++[(y1.1,4,0,y3.1,())] }:PS)).ins=x.ins++[(y1.1,4,0,y3.1,())]:=by show y3.2.ins++_=_;rw [k3]
 have G:(({ y3.2 with ins:=y3.2.ins++[(y1.1,4,0,y3.1,())] }:PS)).k=y3.2.k:=rfl;have hP:(({ y3.2 with ins:=y3.2.ins++[(y1.1,4,0,y3.1,())] }:PS)).pts=y3.2.pts:=rfl;generalize ({ y3.2 with ins:=y3.2.ins++[(y1.1,4,0,y3.1,())] }:PS)=z at *;have hZi:=Lib.hid ((Bt (l:=l) z [59]).trans hI);have cE:=fun {M} w (V:St S M w) (si:Sv)=>Bv w V sl si sn z hl hm [59]
 rw [G,hP] at cE;clear e0 k1 k2 k3 hI G hP;clear hz hz2 hz3;unfold Ac;go_enter func60,ntmps60;repeat' ((apply ZZ 16);first|(apply O ();go_step)|(apply kc ();refine sc (cM _ V) ?_;clear V;rintro v w ⟨rfl,V⟩)|(apply kc ();refine sc (cA _ V) ?_;clear V;rintro v w ⟨rfl,V⟩)|(apply kc ();refine sc (c1 _ V) ?_;clear V;rintro v w ⟨rfl,V⟩)|(apply kc ();refine sc (c2 _ V) ?_;clear V;rintro v w ⟨rfl,V⟩)|(apply kc ();refine sc (c3 _ V) ?_;clear V;rintro v w ⟨rfl,V⟩)|(apply kc ();refine sc (cB _ V) ?_;clear V;rintro v w ⟨rfl,V⟩)|(apply kc ();refine sc (cC _ V) ?_;clear V;rintro v w ⟨rfl,V⟩)|apply sX ()|(apply sS ();clear V;intro w V)|(apply sB ();clear V;intro bx w V)|(apply sA ();clear V;intro bk w V)|fail)
 repeat' (first|(apply O ();go_step)|apply sX ()|fail)
 refine Ay (vs:=[(.agg #[.string ⟨y1.1.b.toArray⟩,.int .i64 4,.int .i64 0,.int .i64 y3.1])]) V Y Y rfl rfl (by simp [Value.cells]) rfl (by omega) (by omega) ?_;clear V;intro u w V;refine nX ?_;refine AF (j:=0) V X X SlIn.h rfl Y Y Y (by simp [Value.cells,Value.oneCell']) (by omega) (by omega) (by decide) ?_;clear V;intro v' w V;refine nX ?_;(try replace V:=nH V);replace V:=V.drop;obtain ⟨ay,cy,rfl⟩:=Go.Sl.sl_formk (k:=4) V rfl;apply nW ();have cF:=fun {M} w (V:St S M w)=>cE w V (ay,x.ins.length+1,cy)
 clear cE;repeat' (first|(apply O ();go_step)|(apply kc ();refine sc (cF _ V) ?_;clear V;rintro v w ⟨rfl,V⟩)|apply sX ()|(apply sS ();clear V;intro w V)|fail)
 refine Bl rfl V rfl 2 rfl inferInstance rfl rfl ?_;refine ⟨_,rfl,(ay,x.ins.length+1,cy),ci++[.string ⟨y1.1.b.toArray⟩,.int .i64 4,.int .i64 0,.int .i64 y3.1],rfl,?_,?_⟩
 ·rw [hZi.out];exact hR.append (RL.one_mk (TD hnl (Ah (by decide)) (Ah (by decide)) hn1))
 ·rw [hZi.out];have:=V.drop.drop.drop.drop
  simpa using this
theorem dy (hm:l.length≤1500) {S M} (w sl si sn ci x) (V:St S (.sl (Ar si) 97 4 x.ins.length ci::M) w) (hR:RL S ci x.ins) (hb:x.ins.length≤100000) (hl:RSl S (Ar sl) l):
  Ac prog 60 [CI sl x.k si sn x.pts] w (NS S M sl sn (C8 l x)):=by
 cases hz:AS l (AM l (Al l x [105,110,112,117,116])).2 [115,116,114,97,112] with
 | true=>exact Rw hm w sl si sn ci x V hR hb hl hz
 | false =>
  cases hz2:AS l (AM l (Al l x [105,110,112,117,116])).2 [102,117,115,101] with
  | true=>exact Ud hm w sl si sn ci x V hR hb hl hz hz2
  | false =>
   cases hz3:AS l (AM l (Al l x [105,110,112,117,116])).2 [115,108,111,116] with
   | true=>exact Ub hm w sl si sn ci x V hR hb hl hz hz2 hz3
   | false=>exact Uc hm w sl si sn ci x V hR hb hl hz hz2 hz3
end
end Go.Proofs.YtmmbidoldegemaaGreatDoor
