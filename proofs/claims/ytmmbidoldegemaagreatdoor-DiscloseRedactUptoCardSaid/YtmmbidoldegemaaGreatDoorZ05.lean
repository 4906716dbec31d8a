/- Part 6 of a proof; no conditions. -/
import Derived.Test.YtmmbidoldegemaaGreatDoorZ04
set_option linter.all false
set_option maxRecDepth 8000
set_option maxHeartbeats 8000000
namespace Go.Proofs.YtmmbidoldegemaaGreatDoor
open Go.RowKit Go.Sl Go.Proofs.Tryz
instance l5:FlatC Cv (fun s=>[.string ⟨s.b.toArray⟩]):=⟨fun h=>h.1⟩
section
variable {l:List Tk}
theorem Qg {x} (h:x.k < 0∨(l.length:Int)≤x.k):AM l x=(⟨[]⟩,Ci x):=by unfold AM;rw [J7 h]
theorem Qh {x:PS} {k:Nat} (hk:x.k=k) (h):AM l x=if l[k].1≠1∨l[k].2.1.b∈FU then (⟨[]⟩,Ci x) else (l[k].2.1,{ x with k:=x.k+1 }):=by
 unfold AM;rw [J6 (by omega) (by omega)];simp only [hk,Int.toNat_natCast]
theorem Nm {x} (h:E6 l x=false):AN l x=(0,Ci x):=by
 unfold AN;unfold E6 at h
 cases e:KL l x with
 | none=>rfl
 | some t =>
  rw [e] at h;exact if_neg (by simpa using h)
theorem Nn {x:PS} {k:Nat} (hk:x.k=k) (h) (hn:E6 l x=true):AN l x=(l[k].2.2.1,{ x with k:=x.k+1 }):=by
 rw [Se hk h] at hn;unfold AN;rw [J6 (by omega) (by omega)];simp only [hk,Int.toNat_natCast];rw [if_pos (by simpa using hn)]
theorem fK {S M} (w) (V:St S M w) (sl si sn x) (hl:RSl S (Ar sl) l) (hm:l.length≤1500):
  Ac prog 98 [CI sl x.k si sn x.pts] w fun v w'=>v=.tuple #[.string ⟨(AM l x).1.b.toArray⟩,CI sl (AM l x).2.k si sn x.pts]∧St S M w':=by
 unfold Ac;obtain ⟨a,n,c⟩:=sl;obtain ⟨ai,ni,ci⟩:=si;obtain ⟨an,nn,cn⟩:=sn;simp only [Ar] at hl;by_cases h1:x.k < 0∨(l.length:Int)≤x.k
 ·have HR:=Lib.hid (Qg (l:=l) h1);have hf:(Ci x).k = -1:=rfl;generalize Ci x=y at *;rw [HR.out];simp only [hf];clear HR hf;generalize x.k=k at *;rcases h1 with h1|h1
  all_goals
   go_enter func98,ntmps98;repeat' (first|go_skip|apply sG ()|(with_reducible refine Sl.k_guard ?_;refine Sl.guard_cases rfl ?_ ?_<;>intro hg<;>first|exact gX|(simp only [hg,Bool.not_true,Bool.not_false])<;>(try replace hg:=gN hg)<;>apply nW ())|(apply O ();go_step)|apply sX ()|(apply sS ();clear V;intro w V)|(apply sB ();clear V;intro bx w V)|(apply sA ();clear V;intro bk w V)|fail)
   apply kg ()
 ·obtain ⟨k,hk⟩:∃ k:Nat,x.k=k:=⟨x.k.toNat,by omega⟩
  have hlt:k < l.length:=by omega
  have HR:=Qh hk hlt;have hf:(Ci x).k = -1:=rfl;have hg:({ x with k:=x.k+1 }:PS).k=k+1:=by simp only [hk]
  generalize Ci x=y at *;generalize ({ x with k:=x.k+1 }:PS)=y2 at *;rw [hk];clear h1 hk;obtain ⟨z1,hz1⟩:∃ z,(l[k].1 != 1)=z:=⟨_,rfl⟩
  obtain ⟨z2,hz2⟩:∃ z,decide (l[k].2.1.b∈FU)=z:=⟨_,rfl⟩
  have cK:=fun {M} w (V:St S M w)=>Wi w V l[k].2.1.b
  rw [hz2] at cK
  cases z1 with
  | true =>
   rw [if_pos (.inl (by simpa using hz1))] at HR;rw [HR];simp only [hf];clear HR hf hg hz2 cK;go_enter func98,ntmps98;repeat' (first|go_skip|apply sK ()|apply sG ()|(apply O ();go_step)|apply sX ()|apply sP ()|(apply sI ();intro v L)|(apply sS ();clear V;intro w V)|(apply sB ();clear V;intro bx w V)|(apply sA ();clear V;intro bk w V)|fail)
   apply kj ()
  | false =>
   cases z2 with
   | true =>
    rw [if_pos (.inr (of_decide_eq_true hz2))] at HR;rw [HR];simp only [hf];clear HR hf hg hz2;go_enter func98,ntmps98;repeat' (first|apply sK ()|apply sG ()|(apply O ();go_step)|(apply kc ();refine sc (cK _ V) ?_;clear V;rintro v w ⟨rfl,V⟩)|apply sX ()|apply sP ()|(apply sI ();intro v L)|(apply sS ();clear V;intro w V)|(apply sB ();clear V;intro bx w V)|(apply sA ();clear V;intro bk w V)|fail)
    apply kj ()
   | false =>
    rw [if_neg (by rintro (h|h)<;>simp_all)] at HR;rw [HR];simp only [hg];clear HR hf hg hz2;go_enter func98,ntmps98;repeat' (first|apply sK ()|apply sG ()|(apply O ();go_step)|(apply kc ();refine sc (cK _ V) ?_;clear V;rintro v w ⟨rfl,V⟩)|apply sX ()|apply sP ()|(apply sI ();intro v L)|(apply sS ();clear V;intro w V)|(apply sB ();clear V;intro bx w V)|(apply sA ();clear V;intro bk w V)|fail)
    refine AD V kr ?_;clear V;intro ops;apply nW ();refine td 0 rfl ?_;refine td 1 rfl ?_;refine td 2 rfl ?_;refine td 3 rfl ?_;refine AP 4 rfl kr ?_;intro w V K G;(refine Ax V rfl _ N.h Y X rfl A3 A2 (by simp<;>omega) ?_);clear V;intro w V;apply nW ();(try replace V:=nH V);refine Bb G V ?_;clear V G K;(try clear w);apply nW ();refine AJ kr ?_;clear ops;intro w V;repeat' (first|(apply O ();go_step)|fail)
    refine Bc rfl (A8 rfl) (AZ V rfl _ N.h Y rfl rfl) ?_;(try simp only [AV,List.drop_zero,List.drop_succ_cons,List.take_succ_cons,List.take_zero,AB,Ap]);exact ⟨_,rfl,rfl,V.drop.drop.drop⟩
theorem YW {S M} (w) (V:St S M w) (sl si sn x) (hl:RSl S (Ar sl) l) (hm:l.length≤1500):
  Ac prog 100 [CI sl x.k si sn x.pts] w fun v w'=>v=.tuple #[.int .i64 (AN l x).1,CI sl (AN l x).2.k si sn x.pts]∧St S M w':=by
 unfold Ac;have cN:=fun {M} w (V:St S M w)=>TO w V sl si sn x hl hm
 obtain ⟨a,n,c⟩:=sl;obtain ⟨ai,ni,ci⟩:=si;obtain ⟨an,nn,cn⟩:=sn;simp only [Ar] at hl
 cases hz:E6 l x with
 | false =>
  have HR:=Lib.hid (Nm (l:=l) hz);have hf:(Ci x).k = -1:=rfl;generalize Ci x=y at *;rw [HR.out];simp only [hf];rw [hz] at cN;clear HR hf hz;generalize x.k=k at *;go_enter func100,ntmps100;repeat' (first|(apply O ();go_step)|(apply kc ();refine sc (cN _ V) ?_;clear V;rintro v w ⟨rfl,V⟩)|apply sX ()|(apply sS ();clear V;intro w V)|(apply sB ();clear V;intro bx w V)|(apply sA ();clear V;intro bk w V)|fail)
  apply kg ()
 | true =>
  have L:=Qf hz;obtain ⟨k,hk⟩:∃ k:Nat,x.k=k:=⟨x.k.toNat,by omega⟩
  have hlt:k < l.length:=by omega
  have HR:=Nn hk hlt hz;have hg:({ x with k:=x.k+1 }:PS).k=k+1:=by simp only [hk]
  generalize ({ x with k:=x.k+1 }:PS)=y2 at *;rw [hz,hk] at cN;rw [HR,hk];simp only [hg];clear HR hz hg L hk;go_enter func100,ntmps100;repeat' (first|(apply O ();go_step)|(apply kc ();refine sc (cN _ V) ?_;clear V;rintro v w ⟨rfl,V⟩)|apply sX ()|(apply sS ();clear V;intro w V)|(apply sB ();clear V;intro bx w V)|(apply sA ();clear V;intro bk w V)|fail)
  refine AD V kr ?_;clear V;intro ops;apply nW ();refine td 0 rfl ?_;refine td 1 rfl ?_;refine td 2 rfl ?_;refine td 3 rfl ?_;refine tq 4 rfl (by exact DY rfl rfl Af) ?_;refine tx 5 rfl (Aq X Ak rfl Y Y Af Af) ?_;rintro v L;replace L:=iN L;refine tx 6 rfl (As X Ak Y Y rfl) ?_;rintro v L;replace L:=iN L;refine tx 7 rfl (Am X Ak Y) ?_;rintro v7 ⟨rfl,hI⟩;refine td 8 rfl ?_;refine td 9 rfl ?_;refine AP 10 rfl kr ?_;intro w V K G;(refine Ax V rfl _ N.h Y X rfl A3 A2 (by simp<;>omega) ?_);clear V;intro w V;apply nW ();(try replace V:=nH V);refine Bb G V ?_;clear V G K;(try clear w);apply nW ();refine AJ kr ?_;clear ops;intro w V;repeat' (first|(apply O ();go_step)|fail)
  refine Bc rfl (A8 rfl) (AZ V rfl _ N.h Y rfl rfl) ?_;(try simp only [AV,List.drop_zero,List.drop_succ_cons,List.take_succ_cons,List.take_zero,AB,Ap]);exact ⟨_,rfl,by simp,V.drop.drop⟩
abbrev jg (kd n:Int) (s:List UInt8) (so:Sv):Value:=.agg #[.int .i64 kd,.int .i64 n,.string ⟨s.toArray⟩,.slice so.1 so.2.1 so.2.2]
theorem GQ {S kd n s so of} (h1:Au kd) (h2:Au n) (h3:s.b.length≤maxLen) (h4:RSl S (Ar so) of):Z.R S [.int .i64 kd,.int .i64 n,.string ⟨s.b.toArray⟩,.slice so.1 so.2.1 so.2.2] ((kd,n,s,of,()):Nd) :=
 AG (cs:=[_]) ⟨rfl,h1⟩ (AG (cs:=[_]) ⟨rfl,h2⟩ (AG (cs:=[_]) ⟨rfl,h3⟩ (AG (cs:=[_]) ⟨_,rfl,h4⟩ CM)))
abbrev De (S:Ad) (M:List J) (sl si:Sv) (r:Int×PS) (v:Value) (w:World):Prop :=
 ∃ S' sn cn,S.Le S'∧v=.tuple #[.int .i64 r.1,CI sl r.2.k si sn r.2.pts]∧(0≤r.1∧r.1≤100000)∧RL S' cn r.2.nds∧St S' (.sl (Ar sn) 139 4 r.2.nds.length cn::M) w
theorem TQ {x} (h:x.k < 0) (n):BA x n=(0,x):=if_pos h
theorem YZ {x} (h:¬ x.k < 0) (n):BA x n=((x.nds.length:Int),{ x with nds:=x.nds++[n] }):=if_neg h
theorem EJ {S M} (w sl si sn cn x) (V:St S (.sl (Ar sn) 139 4 x.nds.length cn::M) w) (hR:RL S cn x.nds) (hb:x.nds.length≤100000) (kd n s so of) (hN:Z.R S [.int .i64 kd,.int .i64 n,.string ⟨s.b.toArray⟩,.slice so.1 so.2.1 so.2.2] ((kd,n,s,of,()):Nd)):
  Ac prog 62 [CI sl x.k si sn x.pts,jg kd n s.b so] w (De S M sl si (BA x (kd,n,s,of,()))):=by
 unfold Ac;obtain ⟨a,na,c⟩:=sl;obtain ⟨ai,ni,ci⟩:=si;obtain ⟨an,nn,cn'⟩:=sn;obtain ⟨ao,no,co⟩:=so;simp only [Ar] at V;by_cases h:x.k < 0
 ·rw [TQ h];have HP:=Lib.hid (show ∀ w',St S (.sl (.slice an nn cn') 139 4 x.nds.length cn::M) w'→De S M (a,na,c) (ai,ni,ci) (0,x) (.tuple #[.int .i64 0,CI (a,na,c) x.k (ai,ni,ci) (an,nn,cn') x.pts]) w' from fun w' h=>⟨S,(an,nn,cn'),cn,.refl _,rfl,⟨Int.le_refl _,by simp only;omega⟩,hR,h⟩);generalize De S M (a,na,c) (ai,ni,ci) (0,x)=PP at *;generalize x.k=k at *;go_enter func62,ntmps62;repeat' (first|(apply O ();go_step)|apply sX ()|(apply sB ();clear V;intro bx w V)|(apply sA ();clear V;intro bk w V)|fail)
  refine AD V kr ?_;clear V;intro ops;apply nW ();refine td 0 rfl ?_;refine td 1 rfl ?_;refine AP 2 rfl kr ?_;intro w V K G;(refine Ax V rfl _ N.h Y X rfl A3 A2 (by simp<;>omega) ?_);clear V;intro w V;apply nW ();(try replace V:=nH V);refine Bb G V ?_;clear V G K;(try clear w);apply nW ();refine AJ kr ?_;clear ops;intro w V;repeat' (first|(apply O ();go_step)|fail)
  refine Bc rfl (A8 rfl) (AZ V rfl _ N.h Y rfl rfl) ?_;(try simp only [AV,List.drop_zero,List.drop_succ_cons,List.take_succ_cons,List.take_zero,AB,Ap]);exact ⟨_,rfl,HP.out _ V.drop.drop.drop⟩
 ·rw [YZ h];have HP:=Lib.hid (show ∀ w' sn' ,St S (.sl (Ar sn') 139 4 (x.nds.length+1) (cn++[.int .i64 kd,.int .i64 n,.string ⟨s.b.toArray⟩,.slice ao no co])::M) w'→De S M (a,na,c) (ai,ni,ci) ((x.nds.length:Int),{ x with nds:=x.nds++[(kd,n,s,of,())] }) (.tuple #[.int .i64 (x.nds.length:Int),CI (a,na,c) x.k (ai,ni,ci) sn' x.pts]) w' from fun w' sn' h=>⟨S,sn',_,.refl _,rfl,⟨Int.natCast_nonneg _,by simp only;omega⟩,hR.append (RL.one_mk hN),by simpa using h⟩);generalize De S M (a,na,c) (ai,ni,ci) ((x.nds.length:Int),{ x with nds:=x.nds++[(kd,n,s,of,())] })=PP at *;generalize x.nds.length=nl at *;generalize x.k=k at *;go_enter func62,ntmps62;repeat' ((apply ZZ 3);first|(apply O ();go_step)|apply sX ()|(apply sB ();clear V;intro bx w V)|(apply sA ();clear V;intro bk w V)|fail)
  repeat' (first|(apply O ();go_step)|apply sX ()|fail)
  refine Ay (vs:=[(jg kd n s.b (ao,no,co))]) V Y Y rfl rfl (by simp [Value.cells]) rfl (by omega) (by omega) ?_;clear V;intro u w V;refine nX ?_;refine AF (j:=0) V X X SlIn.h rfl Y Y Y (by simp [Value.cells,Value.oneCell']) (by omega) (by omega) (by decide) ?_;clear V;intro v' w V;refine nX ?_;(try replace V:=nH V);replace V:=V.drop;obtain ⟨a',c',rfl⟩:=Go.Sl.sl_formk (k:=3) V rfl;repeat' (first|(apply O ();go_step)|apply sX ()|(apply sS ();clear V;intro w V)|fail)
  refine AD V kr ?_;clear V;intro ops;apply nW ();refine td 0 rfl ?_;refine td 1 rfl ?_;refine td 2 rfl ?_;refine tq 3 rfl (by exact Ie X SlIn.h Y) ?_;refine tq 4 rfl (by exact DY rfl rfl Af) ?_;refine td 5 rfl ?_;refine td 6 rfl ?_;refine AP 7 rfl kr ?_;intro w V K G;(refine Ax V rfl _ N.h Y X rfl A3 A2 (by simp<;>omega) ?_);clear V;intro w V;apply nW ();(try replace V:=nH V);refine Bb G V ?_;clear V G K;(try clear w);apply nW ();refine AJ kr ?_;clear ops;intro w V;repeat' (first|(apply O ();go_step)|fail)
  refine Bc rfl (A8 rfl) (AZ V rfl _ N.h Y rfl rfl) ?_;(try simp only [AV,List.drop_zero,List.drop_succ_cons,List.take_succ_cons,List.take_zero,AB,Ap]);refine ⟨_,rfl,?_⟩;have:=HP.out _ (a',nl+1,c') V.drop.drop.drop
  simpa using this
end
section
variable {l:List Tk}
theorem PJ {S M} (w) (V:St S M w) (sl si sn x) (hl:RSl S (Ar sl) l) (hm:l.length≤1500) (lv:Nat) (hlv:lv < 5):
  Ac prog 145 [CI sl x.k si sn x.pts,.int .i64 (lv:Int)] w fun v w'=>v=.int .i64 (CU l x lv)∧St S M w':=by
 unfold Ac;have cI:=fun {M} w (V:St S M w) s=>Cr w V sl si sn x hl hm s
 have c1:=fun {M} w (V:St S M w)=>cI w V [124,124]
 have c2:=fun {M} w (V:St S M w)=>cI w V [38,38]
 have c3:=fun {M} w (V:St S M w)=>cI w V [60]
 have c4:=fun {M} w (V:St S M w)=>cI w V [61,61]
 have c5:=fun {M} w (V:St S M w)=>cI w V [43]
 have c6:=fun {M} w (V:St S M w)=>cI w V [45]
 have c7:=fun {M} w (V:St S M w)=>cI w V [42]
 clear cI;unfold CU;generalize AS l x [124,124]=z1 at *;generalize AS l x [38,38]=z2 at *;generalize AS l x [60]=z3 at *;generalize AS l x [61,61]=z4 at *;generalize AS l x [43]=z5 at *;generalize AS l x [45]=z6 at *;generalize AS l x [42]=z7 at *;generalize x.k=k at *;obtain ⟨a,n,c⟩:=sl;obtain ⟨ai,ni,ci⟩:=si;obtain ⟨an,nn,cn⟩:=sn;obtain rfl|rfl|rfl|rfl|rfl:lv=0∨lv=1∨lv=2∨lv=3∨lv=4:=by omega
 ·cases z1
  all_goals
   go_enter func145,ntmps145;repeat' (first|go_skip|apply sG ()|(apply O ();go_step)|(apply kc ();refine sc (c1 _ V) ?_;clear V;rintro v w ⟨rfl,V⟩)|apply sX ()|(apply sB ();clear V;intro bx w V)|fail)
   go_ret;exact ⟨_,rfl,rfl,V.drop⟩
 ·cases z2
  all_goals
   go_enter func145,ntmps145;repeat' (first|go_skip|apply sG ()|(apply O ();go_step)|(apply kc ();refine sc (c2 _ V) ?_;clear V;rintro v w ⟨rfl,V⟩)|apply sX ()|(apply sB ();clear V;intro bx w V)|fail)
   go_ret;exact ⟨_,rfl,rfl,V.drop⟩
 ·cases z3
  ·cases z4
   all_goals
    go_enter func145,ntmps145;repeat' (first|go_skip|apply sG ()|(apply O ();go_step)|(apply kc ();refine sc (c3 _ V) ?_;clear V;rintro v w ⟨rfl,V⟩)|(apply kc ();refine sc (c4 _ V) ?_;clear V;rintro v w ⟨rfl,V⟩)|apply sX ()|(apply sB ();clear V;intro bx w V)|fail)
    go_ret;exact ⟨_,rfl,rfl,V.drop⟩
  ·go_enter func145,ntmps145;repeat' (first|go_skip|apply sG ()|(apply O ();go_step)|(apply kc ();refine sc (c3 _ V) ?_;clear V;rintro v w ⟨rfl,V⟩)|apply sX ()|(apply sB ();clear V;intro bx w V)|fail)
   go_ret;exact ⟨_,rfl,rfl,V.drop⟩
 ·cases z5
  ·cases z6
   all_goals
    go_enter func145,ntmps145;repeat' (first|go_skip|apply sG ()|(apply O ();go_step)|(apply kc ();refine sc (c5 _ V) ?_;clear V;rintro v w ⟨rfl,V⟩)|(apply kc ();refine sc (c6 _ V) ?_;clear V;rintro v w ⟨rfl,V⟩)|apply sX ()|(apply sB ();clear V;intro bx w V)|fail)
    go_ret;exact ⟨_,rfl,rfl,V.drop⟩
  ·go_enter func145,ntmps145;repeat' (first|go_skip|apply sG ()|(apply O ();go_step)|(apply kc ();refine sc (c5 _ V) ?_;clear V;rintro v w ⟨rfl,V⟩)|apply sX ()|(apply sB ();clear V;intro bx w V)|fail)
   go_ret;exact ⟨_,rfl,rfl,V.drop⟩
 ·cases z7
  all_goals
   go_enter func145,ntmps145;repeat' (first|go_skip|apply sG ()|(apply O ();go_step)|(apply kc ();refine sc (c7 _ V) ?_;clear V;rintro v w ⟨rfl,V⟩)|apply sX ()|(apply sB ();clear V;intro bx w V)|fail)
   go_ret;exact ⟨_,rfl,rfl,V.drop⟩
end
class SubM (M Lqq:List J):Prop where
 h:List.Sublist M Lqq
instance (priority:=low) subM_cons {M Lqq:List J} {c:J} [i:SubM M Lqq]:SubM M (c::Lqq):=⟨.cons _ i.h⟩
instance iq {M Lqq:List J} {c:J} [i:SubM M Lqq]:SubM (c::M) (c::Lqq):=⟨.cons_cons _ i.h⟩
instance (priority:=high) subM_refl {M:List J}:SubM M M:=⟨.refl _⟩
theorem _root_.Go.Sl.St.sub {S M Lqq w} (V:St S Lqq w) [h:SubM M Lqq]:St S M w :=
 ⟨V.os,V.tape,V.output,V.has,fun c hc=>V.at_ c (h.h.subset hc),fun c hc=>V.out c (h.h.subset hc),V.apart.sublist h.h⟩
theorem Cw {S a} (h:Au a):RL S [.int .i64 a] [a]:=RL.one_mk ⟨rfl,h⟩
theorem Iq {S a b} (h:Au a) (k:Au b):RL S [.int .i64 a,.int .i64 b] [a,b]:=RL.append (c:=[_]) (Cw h) (Cw k)
theorem Ah {a} (h:0≤a∧a≤100000):Au a:=by unfold Au;omega
theorem GO {S}:RSl S (.slice none 0 0) ([]:List Int):=.inl ⟨none,0,rfl,rfl,by unfold maxLen;omega⟩
section
variable {l:List Tk}
theorem U3 {S v} (h:RSl S v l) {i} (hi:i < l.length):Au l[i].1∧l[i].2.1.b.length≤maxLen∧Au l[i].2.2.1:=by
 rcases h with ⟨ad,cap,rfl,rfl,_⟩|⟨b,o,cap,c,T,fz,rfl,_,_,_,hR⟩
 ·simp at hi
 ·have h:=hR.2 i l[i] (List.getElem?_eq_getElem hi);exact ⟨h.2.1.2,h.2.2.2.1.2,h.2.2.2.2.2.1.2⟩
theorem Gj {S v} (h:RSl S v l) (x):(AM l x).1.b.length≤maxLen:=by
 by_cases h1:x.k < 0∨(l.length:Int)≤x.k
 ·rw [Qg h1];exact Nat.zero_le _
 ·have hlt:x.k.toNat < l.length:=by omega
  rw [Qh (k:=x.k.toNat) (by omega) hlt];split
  ·exact Nat.zero_le _
  ·exact (U3 h hlt).2.1
theorem Ew {S v} (h:RSl S v l) (x):Au (AN l x).1:=by
 cases hz:E6 l x with
 | false=>rw [Nm hz];exact Ah (a:=0) (by decide)
 | true =>
  have L:=Qf hz;rw [Nn (k:=x.k.toNat) (by omega) (by omega) hz];exact (U3 h (by omega)).2.2
theorem CP (x):(AM l x).2.nds=x.nds∧(AM l x).2.pts=x.pts∧(AM l x).2.ins=x.ins:=by
 unfold AM Ci;split
 ·split<;>exact ⟨rfl,rfl,rfl⟩
 ·exact ⟨rfl,rfl,rfl⟩
theorem B7 (x):(AN l x).2.nds=x.nds∧(AN l x).2.pts=x.pts∧(AN l x).2.ins=x.ins:=by
 unfold AN Ci;split
 ·split<;>exact ⟨rfl,rfl,rfl⟩
 ·exact ⟨rfl,rfl,rfl⟩
abbrev SS (l:List Tk) (f:Nat):Prop:=∀ {S M} (w:World) (sl si sn:Sv) (cn:List Value) (x:PS),St S (.sl (Ar sn) 139 4 x.nds.length cn::M) w→RL S cn x.nds→RSl S (Ar sl) l→AL l 0 x→8 * BY l x+1≤f →
  Ac prog 144 [CI sl x.k si sn x.pts] w (De S M sl si (unaryP l f x))
abbrev Xn (l:List Tk) (f:Nat):Prop:=∀ {S M} (w:World) (sl si sn:Sv) (cn:List Value) (x:PS) (lv:Nat),lv≤5→St S (.sl (Ar sn) 139 4 x.nds.length cn::M) w→RL S cn x.nds→RSl S (Ar sl) l→AL l 0 x→8 * BY l x+7 - lv≤f →
  Ac prog 135 [CI sl x.k si sn x.pts,.int .i64 (lv:Int)] w (De S M sl si (A0 l f x lv))
theorem Tc {f x} (h:AS l x [33]=true):unaryP l (f+1) x=BA (unaryP l f (Al l x [33])).2 (10,0,⟨[]⟩,[(unaryP l f (Al l x [33])).1],()):=by
 rw [unaryP];exact if_pos h
theorem Ta {f x} (h:AS l x [33]=false) (h2:AS l x [40]=true):unaryP l (f+1) x=((A0 l f (Al l x [40]) 0).1,Al l (A0 l f (Al l x [40]) 0).2 [41]):=by
 rw [unaryP];rw [if_neg (by rw [h];decide),if_pos h2]
theorem Tb {f x} (h:AS l x [33]=false) (h2:AS l x [40]=false) (h3:E6 l x=true):unaryP l (f+1) x=BA (AN l x).2 (1,(AN l x).1,⟨[]⟩,[],()):=by
 rw [unaryP];rw [if_neg (by rw [h];decide),if_neg (by rw [h2];decide),if_pos h3]
theorem Rc {f x} (h:AS l x [33]=false) (h2:AS l x [40]=false) (h3:E6 l x=false):unaryP l (f+1) x=BA (AM l x).2 (2,0,(AM l x).1,[],()):=by
 rw [unaryP];rw [if_neg (by rw [h];decide),if_neg (by rw [h2];decide),if_neg (by rw [h3];decide)]
theorem Qj {x s} (h:AS l x s=true) (hi:AL l 0 x):AL l 1 (Al l x s)∧BY l (Al l x s)+1≤BY l x:=by
 have L:=Fl h;refine ⟨AR _ hi,?_⟩;have hk:=Oc (l:=l) x s;rw [if_pos h] at hk;unfold BY;rw [if_neg (by omega),if_neg (by omega)];omega
theorem CQ {S M} {w x s v T c} (h:St S (.sl v T 4 x.nds.length c::M) w):St S (.sl v T 4 (Al l x s).nds.length c::M) w:=by rw [By];exact h
theorem CR {S x s c} (h:RL S c x.nds):RL S c (Al l x s).nds:=by rw [By];exact h
theorem Bv {S M} (w) (V:St S M w) (sl si sn x) (hl:RSl S (Ar sl) l) (hm:l.length≤1500) (s):
  Ac prog 99 [CI sl x.k si sn x.pts,.string ⟨s.toArray⟩] w fun v w'=>v=CI sl (Al l x s).k si sn (Al l x s).pts∧St S M w':=by
 rw [Ht];exact fM w V sl si sn x hl hm s
theorem FC {S M} (w) (V:St S M w) (sl si sn x) (hl:RSl S (Ar sl) l) (hm:l.length≤1500):
  Ac prog 100 [CI sl x.k si sn x.pts] w fun v w'=>v=.tuple #[.int .i64 (AN l x).1,CI sl (AN l x).2.k si sn (AN l x).2.pts]∧St S M w':=by
 rw [(B7 x).2.1];exact YW w V sl si sn x hl hm
theorem Iu {S M} (w) (V:St S M w) (sl si sn x) (hl:RSl S (Ar sl) l) (hm:l.length≤1500):
  Ac prog 98 [CI sl x.k si sn x.pts] w fun v w'=>v=.tuple #[.string ⟨(AM l x).1.b.toArray⟩,CI sl (AM l x).2.k si sn (AM l x).2.pts]∧St S M w':=by
 rw [(CP x).2.1];exact fK w V sl si sn x hl hm
theorem US (hm:l.length≤1500) {f} (hU:SS l f) {S M} (w sl si sn cn x) (V:St S (.sl (Ar sn) 139 4 x.nds.length cn::M) w) (hR:RL S cn x.nds) (hl:RSl S (Ar sl) l) (hi:AL l 0 x) (hf:8 * BY l x+1≤f+1) (hz:AS l x [33]=true):
  Ac prog 144 [CI sl x.k si sn x.pts] w (De S M sl si (unaryP l (f+1) x)):=by
 rw [Tc hz];have c1:=fun {M} w (V:St S M w)=>Cr w V sl si sn x hl hm [33]
 rw [hz] at c1;have cM:=fun {M} w (V:St S M w)=>Bv w V sl si sn x hl hm [33]
 obtain ⟨m1,m2⟩:=Qj hz hi;have m3:=(Er (l:=l) f).2.2 _ _ m1;have cU:=fun {M} w (V:St S (.sl (Ar sn) 139 4 x.nds.length cn::M) w)=>hU w sl si sn cn (Al l x [33]) (CQ V) (CR hR) hl (m1.le (by omega)) (by omega)
 generalize Al l x [33]=y at *;generalize unaryP l f y=r at *;have hb3:r.2.nds.length≤100000:=by have:=m3.nds;omega
 clear hU hi hf hz m1 m2 m3;unfold Ac;go_enter func144,ntmps144;repeat' ((apply ZZ 3);first|(apply O ();go_step)|(apply kc ();refine sc (c1 _ V) ?_;clear V;rintro v w ⟨rfl,V⟩)|(apply kc ();refine sc (cM _ V) ?_;clear V;rintro v w ⟨rfl,V⟩)|(apply kc ();refine sc (cU _ (V.move (k:=2) rfl)) ?_;clear V;rintro v w ⟨S1,sn1,cn1,hS1,rfl,hb1,hR1,V⟩<;>(try replace V:=nH V))|apply sX ()|(apply sS ();clear V;intro w V)|(apply sB ();clear V;intro bx w V)|(apply sA ();clear V;intro bk w V)|fail)
 repeat' (first|(apply O ();go_step)|apply sX ()|fail)
 refine Ay (vs:=[.int .i64 r.1]) V Y Y rfl rfl (by simp [Value.cells]) rfl (by omega) (by omega) ?_;clear V;intro xx w V;obtain ⟨S2,hS2,hst2,hx⟩:=St.freeze (α:=Int) V (Cw (Ah hb1)) rfl;clear V;have V:=hst2;clear hst2;obtain ⟨ax,nx,cx,rfl⟩:=BQ hx;apply nW ();have cN:=fun {M} w (V:St S2 (.sl (Ar sn1) 139 4 r.2.nds.length cn1::M) w)=>EJ w sl si sn1 cn1 r.2 V (hR1.mono hS2) hb3 10 0 ⟨[]⟩ (ax,nx,cx) [r.1] (GQ (Ah (by decide)) (Ah (by decide)) (by decide) hx)
 repeat' (first|(apply O ();go_step)|(apply kc ();refine sc (cN _ (V.move (k:=1) rfl)) ?_;clear V;rintro v w ⟨S3,sn3,cn3,hS3,rfl,hb3,hR3,V⟩<;>(try replace V:=nH V))|(apply sS ();clear V;intro w V)|fail)
 apply kq ()
theorem UQ (hm:l.length≤1500) {f} (hE:Xn l f) {S M} (w sl si sn cn x) (V:St S (.sl (Ar sn) 139 4 x.nds.length cn::M) w) (hR:RL S cn x.nds) (hl:RSl S (Ar sl) l) (hi:AL l 0 x) (hf:8 * BY l x+1≤f+1) (hz:AS l x [33]=false) (hz2:AS l x [40]=true):
  Ac prog 144 [CI sl x.k si sn x.pts] w (De S M sl si (unaryP l (f+1) x)):=by
 rw [Ta hz hz2];have c1:=fun {M} w (V:St S M w)=>Cr w V sl si sn x hl hm [33]
 rw [hz] at c1;have c2:=fun {M} w (V:St S M w)=>Cr w V sl si sn x hl hm [40]
 rw [hz2] at c2;have cM:=fun {M} w (V:St S M w)=>Bv w V sl si sn x hl hm [40]
 obtain ⟨m1,m2⟩:=Qj hz2 hi;have cU:=fun {M} w (V:St S (.sl (Ar sn) 139 4 x.nds.length cn::M) w)=>hE w sl si sn cn (Al l x [40]) 0 (by omega) (CQ V) (CR hR) hl (m1.le (by omega)) (by omega)
 generalize Al l x [40]=y at *;generalize A0 l f y 0=r at *;clear hE hi hf hz hz2 m1 m2;unfold Ac;go_enter func144,ntmps144;repeat' ((apply ZZ 6);first|(apply O ();go_step)|(apply kc ();refine sc (c1 _ V) ?_;clear V;rintro v w ⟨rfl,V⟩)|(apply kc ();refine sc (c2 _ V) ?_;clear V;rintro v w ⟨rfl,V⟩)|(apply kc ();refine sc (cM _ V) ?_;clear V;rintro v w ⟨rfl,V⟩)|(apply kc ();refine sc (cU _ (V.move (k:=2) rfl)) ?_;clear V;rintro v w ⟨S1,sn1,cn1,hS1,rfl,hb1,hR1,V⟩<;>(try replace V:=nH V))|apply sX ()|(apply sS ();clear V;intro w V)|(apply sB ();clear V;intro bx w V)|(apply sA ();clear V;intro bk w V)|fail)
 have cM2:=fun {M} w (V:St S1 M w)=>Bv w V sl si sn1 r.2 (hl.mono hS1) hm [41]
 have hR2:=CR (l:=l) (s:=[41]) hR1;have hst2:=fun (w:World) (h:St S1 (.sl (Ar sn1) 139 4 r.2.nds.length cn1::M) w)=>CQ (l:=l) (s:=[41]) h
 repeat' (first|(apply O ();go_step)|(apply kc ();refine sc (cM2 _ V) ?_;clear V;rintro v w ⟨rfl,V⟩)|apply sX ()|(apply sS ();clear V;intro w V)|fail)
 refine Bc rfl (A8 rfl) (AZ V rfl _ N.h Y rfl rfl) ?_;(try simp only [AV,List.drop_zero,List.drop_succ_cons,List.take_succ_cons,List.take_zero,AB,Ap]);exact ⟨_,rfl,S1,sn1,cn1,hS1,rfl,hb1,hR2,hst2 _ V.sub⟩
theorem UR (hm:l.length≤1500) {f} {S M} (w sl si sn cn x) (V:St S (.sl (Ar sn) 139 4 x.nds.length cn::M) w) (hR:RL S cn x.nds) (hl:RSl S (Ar sl) l) (hi:AL l 0 x) (hz:AS l x [33]=false) (hz2:AS l x [40]=false) (hz3:E6 l x=true):
  Ac prog 144 [CI sl x.k si sn x.pts] w (De S M sl si (unaryP l (f+1) x)):=by
 rw [Tb hz hz2 hz3];have c1:=fun {M} w (V:St S M w)=>Cr w V sl si sn x hl hm [33]
 rw [hz] at c1;have c2:=fun {M} w (V:St S M w)=>Cr w V sl si sn x hl hm [40]
 rw [hz2] at c2;have c3:=fun {M} w (V:St S M w)=>TO w V sl si sn x hl hm
 rw [hz3] at c3;obtain ⟨k1,k2,k3⟩:=B7 (l:=l) x;have cM:=fun {M} w (V:St S M w)=>FC w V sl si sn x hl hm
 have hb:x.nds.length≤100000:=by have:=hi.nds;omega
 have hI:=Ew hl x;rw [← k1] at hR V hb;have cN:=fun {M} w (V:St S (.sl (Ar sn) 139 4 (AN l x).2.nds.length cn::M) w)=>EJ w sl si sn cn (AN l x).2 V hR hb 1 (AN l x).1 ⟨[]⟩ (none,0,0) [] (GQ (Ah (by decide)) hI (by decide) GO)
 generalize AN l x=y at *;clear hi hz hz2 hz3 k1 k2 k3;unfold Ac;go_enter func144,ntmps144;repeat' (first|(apply O ();go_step)|(apply kc ();refine sc (c1 _ V) ?_;clear V;rintro v w ⟨rfl,V⟩)|(apply kc ();refine sc (c2 _ V) ?_;clear V;rintro v w ⟨rfl,V⟩)|(apply kc ();refine sc (c3 _ V) ?_;clear V;rintro v w ⟨rfl,V⟩)|(apply kc ();refine sc (cM _ V) ?_;clear V;rintro v w ⟨rfl,V⟩)|(apply kc ();refine sc (cN _ (V.move (k:=3) rfl)) ?_;clear V;rintro v w ⟨S1,sn1,cn1,hS1,rfl,hb1,hR1,V⟩<;>(try replace V:=nH V))|apply sX ()|(apply sS ();clear V;intro w V)|(apply sB ();clear V;intro bx w V)|(apply sA ();clear V;intro bk w V)|fail)
 apply Xb ()
theorem SZ (hm:l.length≤1500) {f} {S M} (w sl si sn cn x) (V:St S (.sl (Ar sn) 139 4 x.nds.length cn::M) w) (hR:RL S cn x.nds) (hl:RSl S (Ar sl) l) (hi:AL l 0 x) (hz:AS l x [33]=false) (hz2:AS l x [40]=false) (hz3:E6 l x=false):
  Ac prog 144 [CI sl x.k si sn x.pts] w (De S M sl si (unaryP l (f+1) x)):=by
 rw [Rc hz hz2 hz3];have c1:=fun {M} w (V:St S M w)=>Cr w V sl si sn x hl hm [33]
 rw [hz] at c1;have c2:=fun {M} w (V:St S M w)=>Cr w V sl si sn x hl hm [40]
 rw [hz2] at c2;have c3:=fun {M} w (V:St S M w)=>TO w V sl si sn x hl hm
 rw [hz3] at c3;obtain ⟨k1,k2,k3⟩:=CP (l:=l) x;have cM:=fun {M} w (V:St S M w)=>Iu w V sl si sn x hl hm
 have hb:x.nds.length≤100000:=by have:=hi.nds;omega
 have hI:=Gj hl x;rw [← k1] at hR V hb;have cN:=fun {M} w (V:St S (.sl (Ar sn) 139 4 (AM l x).2.nds.length cn::M) w)=>EJ w sl si sn cn (AM l x).2 V hR hb 2 0 (AM l x).1 (none,0,0) [] (GQ (Ah (by decide)) (Ah (by decide)) hI GO)
 generalize AM l x=y at *;clear hi hz hz2 hz3 k1 k2 k3;unfold Ac;go_enter func144,ntmps144;repeat' (first|(apply O ();go_step)|(apply kc ();refine sc (c1 _ V) ?_;clear V;rintro v w ⟨rfl,V⟩)|(apply kc ();refine sc (c2 _ V) ?_;clear V;rintro v w ⟨rfl,V⟩)|(apply kc ();refine sc (c3 _ V) ?_;clear V;rintro v w ⟨rfl,V⟩)|(apply kc ();refine sc (cM _ V) ?_;clear V;rintro v w ⟨rfl,V⟩)|(apply kc ();refine sc (cN _ (V.move (k:=3) rfl)) ?_;clear V;rintro v w ⟨S1,sn1,cn1,hS1,rfl,hb1,hR1,V⟩<;>(try replace V:=nH V))|apply sX ()|(apply sS ();clear V;intro w V)|(apply sB ();clear V;intro bx w V)|(apply sA ();clear V;intro bk w V)|fail)
 apply Xb ()
theorem SY (hm:l.length≤1500) {f} (hU:SS l f) (hE:Xn l f):SS l (f+1):=fun {S M} w sl si sn cn x V hR hl hi hf=>by
 cases hz:AS l x [33] with
 | true=>exact US hm hU w sl si sn cn x V hR hl hi hf hz
 | false =>
  cases hz2:AS l x [40] with
  | true=>exact UQ hm hE w sl si sn cn x V hR hl hi hf hz hz2
  | false =>
   cases hz3:E6 l x with
   | true=>exact UR hm w sl si sn cn x V hR hl hi hz hz2 hz3
   | false=>exact SZ hm w sl si sn cn x V hR hl hi hz hz2 hz3
end
end Go.Proofs.YtmmbidoldegemaaGreatDoor
