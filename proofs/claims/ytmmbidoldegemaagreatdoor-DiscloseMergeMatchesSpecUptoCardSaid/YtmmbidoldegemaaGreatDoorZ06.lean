/- Part 7 of the proof that the law of the last part holds; no conditions. -/
import Derived.Test.YtmmbidoldegemaaGreatDoorZ05
set_option linter.unusedSimpArgs false
set_option linter.unusedVariables false
set_option maxRecDepth 8000
set_option maxHeartbeats 8000000
namespace Go.Proofs.YtmmbidoldegemaaGreatDoor
open Go.RowKit Go.Sl
section
variable {l:List Tk}
theorem Ug {f:Nat} {x:PS} (h:AP l x [108,101,116]=true):Di l f x=((11,0,(AI l (Al l x [108,101,116])).1,[(AV l f (Al l (AI l (Al l x [108,101,116])).2 [61]) 0).1],()),(AV l f (Al l (AI l (Al l x [108,101,116])).2 [61]) 0).2):=by
 unfold Di;rw [if_pos h]
theorem R7 {f:Nat} {x:PS} (h:AP l x [108,101,116]=false) (h2:AP l x [110,111,116,101]=true):Di l f x=((14,0,⟨[]⟩,[(AV l f (Al l x [110,111,116,101]) 0).1],()),(AV l f (Al l x [110,111,116,101]) 0).2):=by
 unfold Di;rw [if_neg (by rw [h];decide),if_pos h2]
theorem R8 {f:Nat} {x:PS} (h:AP l x [108,101,116]=false) (h2:AP l x [110,111,116,101]=false) (h3:AP l x [104,97,108,116]=true):Di l f x=((15,(AJ l (Al l x [104,97,108,116])).1,⟨[]⟩,[],()),(AJ l (Al l x [104,97,108,116])).2):=by
 unfold Di;rw [if_neg (by rw [h];decide),if_neg (by rw [h2];decide),if_pos h3]
theorem Uk {f:Nat} {x:PS} (h:AP l x [108,101,116]=false) (h2:AP l x [110,111,116,101]=false) (h3:AP l x [104,97,108,116]=false):Di l f x=((16,0,⟨[]⟩,[],()),Al l x [97,99,99,101,112,116]):=by
 unfold Di;rw [if_neg (by rw [h];decide),if_neg (by rw [h2];decide),if_neg (by rw [h3];decide)]
theorem ZP {S M} {w:World} {x:PS} {v:Value} {T:TypeId} {c:List Value} (h:St S (.sl v T 4 x.nds.length c::M) w):St S (.sl v T 4 (AI l x).2.nds.length c::M) w:=by rw [(CA x).1];exact h
theorem ZQ {S:Ac} {x:PS} {c:List Value} (h:RL S c x.nds):RL S c (AI l x).2.nds:=by rw [(CA x).1];exact h
theorem N0 {S M} {w:World} {x:PS} {v:Value} {T:TypeId} {c:List Value} (h:St S (.sl v T 4 x.nds.length c::M) w):St S (.sl v T 4 (AJ l x).2.nds.length c::M) w:=by rw [(BS x).1];exact h
theorem N1 {S:Ac} {x:PS} {c:List Value} (h:RL S c x.nds):RL S c (AJ l x).2.nds:=by rw [(BS x).1];exact h
theorem Qb (hm:l.length≤1500) {f:Nat} (hf:8 * l.length+7≤f) {S M} (w:World) (sl si sn:Sv) (cn:List Value) (x:PS) (hst:St S (.sl (Ar sn) 139 4 x.nds.length cn::M) w) (hR:RL S cn x.nds) (hl:RSl S (Ar sl) l) (hi:AH l 0 x) (hz:AP l x [108,101,116]=false) (hz2:AP l x [110,111,116,101]=true) :
  Ad Tryz.prog 103 [Cv sl x.k si sn x.pts] w (CU S M sl si (C0 l f x)):=by
 unfold C0;rw [R7 hz hz2];have c1:=fun {M:List Chunk} (w:World) (hst:St S M w)=>Cc w hst sl si sn x hl hm [108,101,116]
 rw [hz] at c1;have c2:=fun {M:List Chunk} (w:World) (hst:St S M w)=>Cc w hst sl si sn x hl hm [110,111,116,101]
 rw [hz2] at c2;have cM:=fun {M:List Chunk} (w:World) (hst:St S M w)=>Bj w hst sl si sn x hl hm [110,111,116,101]
 have m1:=AO (l:=l) [110,111,116,101] hi;have cE:=fun {M:List Chunk} (w:World) (hst:St S (.sl (Ar sn) 139 4 x.nds.length cn::M) w)=>(Nu hm f).2 w sl si sn cn (Al l x [110,111,116,101]) 0 (by omega) (CB hst) (CC hR) hl (m1.le (by omega)) (by have:=I0 (l:=l) (Al l x [110,111,116,101]);omega)
 generalize Al l x [110,111,116,101]=y at *;have m2:=(D4 (l:=l) f).1 _ _ 0 m1;generalize AV l f y 0=r at *;have m3:=AO (l:=l) [59] m2;clear hi hf hz hz2 m1 m2;unfold Ad;go_enter Tryz.func103,Tryz.ntmps103;repeat' ((apply MO ());first|(apply gK ();go_step)|(apply kc ();refine sc (c1 _ hst) ?_;clear hst;rintro v w ⟨rfl,hst⟩)|(apply kc ();refine sc (c2 _ hst) ?_;clear hst;rintro v w ⟨rfl,hst⟩)|(apply kc ();refine sc (cM _ hst) ?_;clear hst;rintro v w ⟨rfl,hst⟩)|(apply kc ();refine sc (cE _ (hst.move (k:=3) rfl)) ?_;clear hst;rintro v w ⟨S1,sn1,cn1,hS1,rfl,hb1,hR1,hst⟩<;>(try replace hst:=nH hst))|apply sX ()|(apply sS ();clear hst;intro w hst)|(apply sB ();clear hst;intro bx w hst)|(apply sA ();clear hst;intro bk w hst)|fail)
 repeat' (first|(apply gK ();go_step)|fail)
 refine AA (vs:=[.int .i64 r.1]) hst Aa Aa rfl rfl (by simp [Value.cells]) rfl (by omega) (by omega) ?_;clear hst;intro xx w hst;obtain ⟨S2,hS2,hst2,hx⟩:=St.freeze (α:=Int) hst (Cg (Aj hb1)) rfl;clear hst;have hst:=hst2;clear hst2;obtain ⟨ax,nx,cx,rfl⟩:=BO hx;(try refine nX ?_);have cM2:=fun {M:List Chunk} (w:World) (hst:St S2 M w)=>Bj w hst sl si sn1 r.2 ((hl.mono hS1).mono hS2) hm [59]
 have hb3:(Al l r.2 [59]).nds.length≤100000:=by have:=m3.nds;omega
 have cN:=fun {M:List Chunk} (w:World) (hst:St S2 (.sl (Ar sn1) 139 4 r.2.nds.length cn1::M) w)=>El w sl si sn1 cn1 (Al l r.2 [59]) (CB hst) (CC (hR1.mono hS2)) hb3 14 0 ⟨[]⟩ (ax,nx,cx) [r.1] (Gi (Aj (by decide)) (Aj (by decide)) (by decide) hx)
 apply b3 ()
theorem R5 (hm:l.length≤1500) {f:Nat} (hf:8 * l.length+7≤f) {S M} (w:World) (sl si sn:Sv) (cn:List Value) (x:PS) (hst:St S (.sl (Ar sn) 139 4 x.nds.length cn::M) w) (hR:RL S cn x.nds) (hl:RSl S (Ar sl) l) (hi:AH l 0 x) (hz:AP l x [108,101,116]=true) :
  Ad Tryz.prog 103 [Cv sl x.k si sn x.pts] w (CU S M sl si (C0 l f x)):=by
 unfold C0;rw [Ug hz];have c1:=fun {M:List Chunk} (w:World) (hst:St S M w)=>Cc w hst sl si sn x hl hm [108,101,116]
 rw [hz] at c1;have cM:=fun {M:List Chunk} (w:World) (hst:St S M w)=>Bj w hst sl si sn x hl hm [108,101,116]
 have cA:=fun {M:List Chunk} (w:World) (hst:St S M w)=>Hq w hst sl si sn (Al l x [108,101,116]) hl hm
 have cB:=fun {M:List Chunk} (w:World) (hst:St S M w)=>Bj w hst sl si sn (AI l (Al l x [108,101,116])).2 hl hm [61]
 have hs1:=fun {M:List Chunk} (w:World) (hst:St S (.sl (Ar sn) 139 4 x.nds.length cn::M) w)=>CB (l:=l) (s:=[61]) (ZP (l:=l) (CB (l:=l) (s:=[108,101,116]) hst))
 have hr1:=CC (l:=l) (s:=[61]) (ZQ (l:=l) (CC (l:=l) (s:=[108,101,116]) hR));have m1:=AO (l:=l) [61] (Is (AO (l:=l) [108,101,116] hi));have hnl:=FM hl (Al l x [108,101,116]);generalize Al l x [108,101,116]=y0 at *;generalize AI l y0=y1 at *;have cE:=fun {M:List Chunk} (w:World) (hst:St S (.sl (Ar sn) 139 4 x.nds.length cn::M) w)=>(Nu hm f).2 w sl si sn cn (Al l y1.2 [61]) 0 (by omega) (hs1 w hst) hr1 hl (m1.le (by omega)) (by have:=I0 (l:=l) (Al l y1.2 [61]);omega)
 generalize Al l y1.2 [61]=y at *;have m2:=(D4 (l:=l) f).1 _ _ 0 m1;generalize AV l f y 0=r at *;have m3:=AO (l:=l) [59] m2;clear hi hf hz m1 m2 hs1 hr1;unfold Ad;go_enter Tryz.func103,Tryz.ntmps103;repeat' ((apply Z6 ());first|(apply gK ();go_step)|(apply kc ();refine sc (c1 _ hst) ?_;clear hst;rintro v w ⟨rfl,hst⟩)|(apply kc ();refine sc (cM _ hst) ?_;clear hst;rintro v w ⟨rfl,hst⟩)|(apply kc ();refine sc (cA _ hst) ?_;clear hst;rintro v w ⟨rfl,hst⟩)|apply sX ()|(apply sS ();clear hst;intro w hst)|(apply sB ();clear hst;intro bx w hst)|(apply sA ();clear hst;intro bk w hst)|fail)
 repeat' ((apply Z7 ());first|(apply gK ();go_step)|(apply kc ();refine sc (cB _ hst) ?_;clear hst;rintro v w ⟨rfl,hst⟩)|(apply kc ();refine sc (cE _ (hst.move (k:=4) rfl)) ?_;clear hst;rintro v w ⟨S1,sn1,cn1,hS1,rfl,hb1,hR1,hst⟩<;>(try replace hst:=nH hst))|apply sX ()|(apply sS ();clear hst;intro w hst)|(apply sA ();clear hst;intro bk w hst)|fail)
 repeat' (first|(apply gK ();go_step)|fail)
 refine AA (vs:=[.int .i64 r.1]) hst Aa Aa rfl rfl (by simp [Value.cells]) rfl (by omega) (by omega) ?_;clear hst;intro xx w hst;obtain ⟨S2,hS2,hst2,hx⟩:=St.freeze (α:=Int) hst (Cg (Aj hb1)) rfl;clear hst;have hst:=hst2;clear hst2;obtain ⟨ax,nx,cx,rfl⟩:=BO hx;(try refine nX ?_);have cM2:=fun {M:List Chunk} (w:World) (hst:St S2 M w)=>Bj w hst sl si sn1 r.2 ((hl.mono hS1).mono hS2) hm [59]
 have hb3:(Al l r.2 [59]).nds.length≤100000:=by have:=m3.nds;omega
 have cN:=fun {M:List Chunk} (w:World) (hst:St S2 (.sl (Ar sn1) 139 4 r.2.nds.length cn1::M) w)=>El w sl si sn1 cn1 (Al l r.2 [59]) (CB hst) (CC (hR1.mono hS2)) hb3 11 0 y1.1 (ax,nx,cx) [r.1] (Gi (Aj (by decide)) (Aj (by decide)) hnl hx)
 apply b3 ()
theorem Qc (hm:l.length≤1500) {f:Nat} (hf:8 * l.length+7≤f) {S M} (w:World) (sl si sn:Sv) (cn:List Value) (x:PS) (hst:St S (.sl (Ar sn) 139 4 x.nds.length cn::M) w) (hR:RL S cn x.nds) (hl:RSl S (Ar sl) l) (hi:AH l 0 x) (hz:AP l x [108,101,116]=false) (hz2:AP l x [110,111,116,101]=false) (hz3:AP l x [104,97,108,116]=true) :
  Ad Tryz.prog 103 [Cv sl x.k si sn x.pts] w (CU S M sl si (C0 l f x)):=by
 unfold C0;rw [R8 hz hz2 hz3];have c1:=fun {M:List Chunk} (w:World) (hst:St S M w)=>Cc w hst sl si sn x hl hm [108,101,116]
 rw [hz] at c1;have c2:=fun {M:List Chunk} (w:World) (hst:St S M w)=>Cc w hst sl si sn x hl hm [110,111,116,101]
 rw [hz2] at c2;have c3:=fun {M:List Chunk} (w:World) (hst:St S M w)=>Cc w hst sl si sn x hl hm [104,97,108,116]
 rw [hz3] at c3;have cM:=fun {M:List Chunk} (w:World) (hst:St S M w)=>Bj w hst sl si sn x hl hm [104,97,108,116]
 have cA:=fun {M:List Chunk} (w:World) (hst:St S M w)=>Fc w hst sl si sn (Al l x [104,97,108,116]) hl hm
 have hs1:=fun {M:List Chunk} (w:World) (hst:St S (.sl (Ar sn) 139 4 x.nds.length cn::M) w)=>N0 (l:=l) (CB (l:=l) (s:=[104,97,108,116]) hst)
 have hr1:=N1 (l:=l) (CC (l:=l) (s:=[104,97,108,116]) hR);have m1:=CL (AO (l:=l) [104,97,108,116] hi);have hnl:=D8 hl (Al l x [104,97,108,116]);generalize Al l x [104,97,108,116]=y0 at *;generalize AJ l y0=r at *;have cM2:=fun {M:List Chunk} (w:World) (hst:St S M w)=>Bj w hst sl si sn r.2 hl hm [59]
 have m3:=AO (l:=l) [59] m1;have hb3:(Al l r.2 [59]).nds.length≤100000:=by have:=m3.nds;omega
 have cN:=fun {M:List Chunk} (w:World) (hst:St S (.sl (Ar sn) 139 4 x.nds.length cn::M) w)=>El w sl si sn cn (Al l r.2 [59]) (CB (hs1 _ hst)) (CC hr1) hb3 15 r.1 ⟨[]⟩ (none,0,0) [] (Gi (Aj (by decide)) hnl (by decide) Gh)
 clear hi hf hz hz2 hz3 m1 hr1;unfold Ad;go_enter Tryz.func103,Tryz.ntmps103;repeat' ((apply KB ());first|(apply gK ();go_step)|(apply kc ();refine sc (c1 _ hst) ?_;clear hst;rintro v w ⟨rfl,hst⟩)|(apply kc ();refine sc (c2 _ hst) ?_;clear hst;rintro v w ⟨rfl,hst⟩)|(apply kc ();refine sc (c3 _ hst) ?_;clear hst;rintro v w ⟨rfl,hst⟩)|(apply kc ();refine sc (cM _ hst) ?_;clear hst;rintro v w ⟨rfl,hst⟩)|(apply kc ();refine sc (cA _ hst) ?_;clear hst;rintro v w ⟨rfl,hst⟩)|apply sX ()|(apply sS ();clear hst;intro w hst)|(apply sB ();clear hst;intro bx w hst)|(apply sA ();clear hst;intro bk w hst)|fail)
 refine AN hst kr ?_;clear hst;intro w hst;have hSS:=Bk hst;(try refine nX ?_);refine BQ 0 2 rfl rfl kr ?_ ?_;intro K hK;refine Ag hst (AM rfl _ BoxIn.h Aa rfl rfl) ?_;refine pn hK ?_;clear hK K;refine BQ 1 2 rfl rfl kr ?_ ?_;intro K hK;refine sc (cM2 _ hst) ?_;clear hst;rintro v1 w ⟨rfl,hst⟩;refine pn hK ?_;clear hK K;refine po 2 rfl ?_;intro K hK;refine Ag hst (AM rfl _ BoxIn.h Aa rfl rfl) ?_;refine pn hK ?_;clear hK K;refine po 3 rfl ?_;intro K hK;refine sc (cN _ (hst.move (k:=4) rfl)) ?_;clear hst;rintro v3 w ⟨S3,sn3,cn3,hS3,rfl,hb3,hR3,hst⟩;(try replace hst:=nH hst);replace hSS:=hSS.trans hS3;refine pn hK ?_;clear hK K;refine pd 4 rfl ?_;refine pd 5 rfl ?_;refine pd 6 rfl ?_;refine po 7 rfl ?_;intro K hK;(refine AB hst rfl _ BoxIn.h Aa Ab rfl A6 A5 (by simp<;>omega) ?_);clear hst;intro w hst;(try replace hst:=nH hst);refine pn hK ?_;clear hK K;refine Az kr ?_;rotate_left;intro K hK;refine Ag hst (AM rfl _ BoxIn.h Aa rfl rfl) ?_;refine pn hK ?_;clear hK K;refine po 1 rfl ?_;intro K hK;refine sc (cM2 _ hst) ?_;clear hst;rintro v1 w ⟨rfl,hst⟩;refine pn hK ?_;clear hK K;refine po 3 rfl ?_;intro K hK;refine sc (cN _ (hst.move (k:=4) rfl)) ?_;clear hst;rintro v3 w ⟨S3,sn3,cn3,hS3,rfl,hb3,hR3,hst⟩;(try replace hst:=nH hst);replace hSS:=hSS.trans hS3;refine pn hK ?_;clear hK K;refine pd 4 rfl ?_;refine pd 5 rfl ?_;refine pd 6 rfl ?_
 refine po 7 rfl ?_;intro K hK;(refine AB hst rfl _ BoxIn.h Aa Ab rfl A6 A5 (by simp<;>omega) ?_);clear hst;intro w hst;(try replace hst:=nH hst);refine pn hK ?_;clear hK K;refine Az kr ?_;rotate_left;intro K hK;refine Ag hst (AM rfl _ BoxIn.h Aa rfl rfl) ?_;refine pn hK ?_;clear hK K;refine po 0 rfl ?_;intro K hK;refine Ag hst (AM rfl _ BoxIn.h Aa rfl rfl) ?_;refine pn hK ?_;clear hK K;refine po 1 rfl ?_;intro K hK;refine sc (cM2 _ hst) ?_;clear hst;rintro v1 w ⟨rfl,hst⟩;refine pn hK ?_;clear hK K;refine po 3 rfl ?_;intro K hK;refine sc (cN _ (hst.move (k:=4) rfl)) ?_;clear hst;rintro v3 w ⟨S3,sn3,cn3,hS3,rfl,hb3,hR3,hst⟩;(try replace hst:=nH hst);replace hSS:=hSS.trans hS3;refine pn hK ?_;clear hK K;refine pd 4 rfl ?_;refine pd 5 rfl ?_;refine pd 6 rfl ?_;refine po 7 rfl ?_;intro K hK;(refine AB hst rfl _ BoxIn.h Aa Ab rfl A6 A5 (by simp<;>omega) ?_);clear hst;intro w hst;(try replace hst:=nH hst);refine pn hK ?_;clear hK K;refine Az kr ?_;rotate_left
 all_goals
  apply g9 ()
theorem R6 (hm:l.length≤1500) {f:Nat} (hf:8 * l.length+7≤f) {S M} (w:World) (sl si sn:Sv) (cn:List Value) (x:PS) (hst:St S (.sl (Ar sn) 139 4 x.nds.length cn::M) w) (hR:RL S cn x.nds) (hl:RSl S (Ar sl) l) (hi:AH l 0 x) (hz:AP l x [108,101,116]=false) (hz2:AP l x [110,111,116,101]=false) (hz3:AP l x [104,97,108,116]=false) :
  Ad Tryz.prog 103 [Cv sl x.k si sn x.pts] w (CU S M sl si (C0 l f x)):=by
 unfold C0;rw [Uk hz hz2 hz3];have c1:=fun {M:List Chunk} (w:World) (hst:St S M w)=>Cc w hst sl si sn x hl hm [108,101,116]
 rw [hz] at c1;have c2:=fun {M:List Chunk} (w:World) (hst:St S M w)=>Cc w hst sl si sn x hl hm [110,111,116,101]
 rw [hz2] at c2;have c3:=fun {M:List Chunk} (w:World) (hst:St S M w)=>Cc w hst sl si sn x hl hm [104,97,108,116]
 rw [hz3] at c3;have cM:=fun {M:List Chunk} (w:World) (hst:St S M w)=>Bj w hst sl si sn x hl hm [97,99,99,101,112,116]
 have hs1:=fun {M:List Chunk} (w:World) (hst:St S (.sl (Ar sn) 139 4 x.nds.length cn::M) w)=>CB (l:=l) (s:=[97,99,99,101,112,116]) hst
 have hr1:=CC (l:=l) (s:=[97,99,99,101,112,116]) hR;have m1:=AO (l:=l) [97,99,99,101,112,116] hi;generalize Al l x [97,99,99,101,112,116]=r at *;have cM2:=fun {M:List Chunk} (w:World) (hst:St S M w)=>Bj w hst sl si sn r hl hm [59]
 have m3:=AO (l:=l) [59] m1;have hb3:(Al l r [59]).nds.length≤100000:=by have:=m3.nds;omega
 have cN:=fun {M:List Chunk} (w:World) (hst:St S (.sl (Ar sn) 139 4 x.nds.length cn::M) w)=>El w sl si sn cn (Al l r [59]) (CB (hs1 _ hst)) (CC hr1) hb3 16 0 ⟨[]⟩ (none,0,0) [] (Gi (Aj (by decide)) (Aj (by decide)) (by decide) Gh)
 clear hi hf hz hz2 hz3 m1 hr1;unfold Ad;go_enter Tryz.func103,Tryz.ntmps103;repeat' ((apply KB ());first|(apply gK ();go_step)|(apply kc ();refine sc (c1 _ hst) ?_;clear hst;rintro v w ⟨rfl,hst⟩)|(apply kc ();refine sc (c2 _ hst) ?_;clear hst;rintro v w ⟨rfl,hst⟩)|(apply kc ();refine sc (c3 _ hst) ?_;clear hst;rintro v w ⟨rfl,hst⟩)|(apply kc ();refine sc (cM _ hst) ?_;clear hst;rintro v w ⟨rfl,hst⟩)|apply sX ()|(apply sS ();clear hst;intro w hst)|(apply sB ();clear hst;intro bx w hst)|(apply sA ();clear hst;intro bk w hst)|fail)
 refine AN hst kr ?_;clear hst;intro w hst;have hSS:=Bk hst;(try refine nX ?_);refine BQ 0 2 rfl rfl kr ?_ ?_;intro K hK;refine Ag hst (AM rfl _ BoxIn.h Aa rfl rfl) ?_;refine pn hK ?_;clear hK K;refine BQ 1 2 rfl rfl kr ?_ ?_;intro K hK;refine sc (cM2 _ hst) ?_;clear hst;rintro v1 w ⟨rfl,hst⟩;refine pn hK ?_;clear hK K;refine po 2 rfl ?_;intro K hK;refine Ag hst (AM rfl _ BoxIn.h Aa rfl rfl) ?_;refine pn hK ?_;clear hK K;refine po 3 rfl ?_;intro K hK;refine sc (cN _ (hst.move (k:=3) rfl)) ?_;clear hst;rintro v3 w ⟨S3,sn3,cn3,hS3,rfl,hb3,hR3,hst⟩;(try replace hst:=nH hst);replace hSS:=hSS.trans hS3;refine pn hK ?_;clear hK K;refine pd 4 rfl ?_;refine pd 5 rfl ?_;refine pd 6 rfl ?_;refine po 7 rfl ?_;intro K hK;(refine AB hst rfl _ BoxIn.h Aa Ab rfl A6 A5 (by simp<;>omega) ?_);clear hst;intro w hst;(try replace hst:=nH hst);refine pn hK ?_;clear hK K;refine Az kr ?_;rotate_left;intro K hK;refine Ag hst (AM rfl _ BoxIn.h Aa rfl rfl) ?_;refine pn hK ?_;clear hK K;refine po 1 rfl ?_;intro K hK;refine sc (cM2 _ hst) ?_;clear hst;rintro v1 w ⟨rfl,hst⟩;refine pn hK ?_;clear hK K;refine po 3 rfl ?_;intro K hK;refine sc (cN _ (hst.move (k:=3) rfl)) ?_;clear hst;rintro v3 w ⟨S3,sn3,cn3,hS3,rfl,hb3,hR3,hst⟩;(try replace hst:=nH hst);replace hSS:=hSS.trans hS3;refine pn hK ?_;clear hK K;refine pd 4 rfl ?_;refine pd 5 rfl ?_;refine pd 6 rfl ?_
 refine po 7 rfl ?_;intro K hK;(refine AB hst rfl _ BoxIn.h Aa Ab rfl A6 A5 (by simp<;>omega) ?_);clear hst;intro w hst;(try replace hst:=nH hst);refine pn hK ?_;clear hK K;refine Az kr ?_;rotate_left;intro K hK;refine Ag hst (AM rfl _ BoxIn.h Aa rfl rfl) ?_;refine pn hK ?_;clear hK K;refine po 0 rfl ?_;intro K hK;refine Ag hst (AM rfl _ BoxIn.h Aa rfl rfl) ?_;refine pn hK ?_;clear hK K;refine po 1 rfl ?_;intro K hK;refine sc (cM2 _ hst) ?_;clear hst;rintro v1 w ⟨rfl,hst⟩;refine pn hK ?_;clear hK K;refine po 3 rfl ?_;intro K hK;refine sc (cN _ (hst.move (k:=3) rfl)) ?_;clear hst;rintro v3 w ⟨S3,sn3,cn3,hS3,rfl,hb3,hR3,hst⟩;(try replace hst:=nH hst);replace hSS:=hSS.trans hS3;refine pn hK ?_;clear hK K;refine pd 4 rfl ?_;refine pd 5 rfl ?_;refine pd 6 rfl ?_;refine po 7 rfl ?_;intro K hK;(refine AB hst rfl _ BoxIn.h Aa Ab rfl A6 A5 (by simp<;>omega) ?_);clear hst;intro w hst;(try replace hst:=nH hst);refine pn hK ?_;clear hK K;refine Az kr ?_;rotate_left
 all_goals
  apply g9 ()
theorem WE (hm:l.length≤1500) {f:Nat} (hf:8 * l.length+7≤f) {S M} (w:World) (sl si sn:Sv) (cn:List Value) (x:PS) (hst:St S (.sl (Ar sn) 139 4 x.nds.length cn::M) w) (hR:RL S cn x.nds) (hl:RSl S (Ar sl) l) (hi:AH l 0 x) :
  Ad Tryz.prog 103 [Cv sl x.k si sn x.pts] w (CU S M sl si (C0 l f x)):=by
 cases hz:AP l x [108,101,116] with
 | true=>exact R5 hm hf w sl si sn cn x hst hR hl hi hz
 | false =>
  cases hz2:AP l x [110,111,116,101] with
  | true=>exact Qb hm hf w sl si sn cn x hst hR hl hi hz hz2
  | false =>
   cases hz3:AP l x [104,97,108,116] with
   | true=>exact Qc hm hf w sl si sn cn x hst hR hl hi hz hz2 hz3
   | false=>exact R6 hm hf w sl si sn cn x hst hR hl hi hz hz2 hz3
end
section
variable {l:List Tk}
def I9 (l:List Tk) (g f:Nat) (x:PS):Int×PS :=
 let r:=AV l g (Al l { x with pts:=x.pts+1 } [105,102]) 0
 let b:=blockP l g f r.2
 if AP l b.2 [101,108,115,101] then
  let c:=blockP l g f (Al l b.2 [101,108,115,101])
  Bs c.2 (12,x.pts,⟨[]⟩,[r.1,b.1,c.1],())
 else Bs b.2 (12,x.pts,⟨[]⟩,[r.1,b.1],())
theorem Wz {g f:Nat} {x:PS} (h:AP l x [105,102]=true):BZ l g (f+1) x=I9 l g f x:=by rw [BZ,if_pos h];rfl
theorem TX {g f:Nat} {x:PS} (h:AP l x [105,102]=false) (h2:AP l x [114,101,112,101,97,116]=true):BZ l g (f+1) x=Bs (blockP l g f (AJ l (Al l x [114,101,112,101,97,116])).2).2 (13,(AJ l (Al l x [114,101,112,101,97,116])).1,⟨[]⟩,[(blockP l g f (AJ l (Al l x [114,101,112,101,97,116])).2).1],()):=by
 rw [BZ,if_neg (by rw [h];decide),if_pos h2]
theorem OF {g f:Nat} {x:PS} (h:AP l x [105,102]=false) (h2:AP l x [114,101,112,101,97,116]=false):BZ l g (f+1) x=C0 l g x:=by
 rw [BZ,if_neg (by rw [h];decide),if_neg (by rw [h2];decide)]
theorem VT {g f:Nat} {x:PS}:blockP l g (f+1) x=listP l g f (Al l x [123]) []:=by rw [blockP]
theorem SD {g f:Nat} {y:PS} {of:List Int} (h:0≤y.k) (h2:AP l y [125]=false):listP l g (f+1) y of=listP l g f (BZ l g f y).2 (of++[(BZ l g f y).1]):=by
 rw [listP,if_pos ⟨h,h2⟩]
theorem N6 {g f:Nat} {y:PS} {of:List Int} (h:y.k < 0∨AP l y [125]=true):listP l g (f+1) y of=Bs (Al l y [125]) (17,0,⟨[]⟩,of,()):=by
 rw [listP,if_neg];rintro ⟨h1,h2⟩;rcases h with h|h
 ·omega
 ·rw [h] at h2;cases h2
abbrev Y0 (l:List Tk) (g f:Nat):Prop:=∀ {S M} (w:World) (sl si sn:Sv) (cn:List Value) (x:PS),St S (.sl (Ar sn) 139 4 x.nds.length cn::M) w→RL S cn x.nds→RSl S (Ar sl) l→AH l 0 x→8 * BN l x+1≤f →
  Ad Tryz.prog 61 [Cv sl x.k si sn x.pts] w (CU S M sl si (BZ l g f x))
abbrev RO (l:List Tk) (g f:Nat):Prop:=∀ {S M} (w:World) (sl si sn:Sv) (cn:List Value) (x:PS),St S (.sl (Ar sn) 139 4 x.nds.length cn::M) w→RL S cn x.nds→RSl S (Ar sl) l→AH l 0 x→8 * BN l x+3≤f →
  Ad Tryz.prog 102 [Cv sl x.k si sn x.pts] w (CU S M sl si (blockP l g f x))
theorem Zz {S:Ac} {a b c:Int} (h:Au a) (k:Au b) (m:Au c):RL S [.int .i64 a,.int .i64 b,.int .i64 c] [a,b,c]:=RL.append (c:=[_,_]) (Hi h k) (Cg m)
theorem Yv (hm:l.length≤1500) {g f:Nat} (hg:8 * l.length+7≤g) (hB:RO l g f) {S M} (w:World) (sl si sn:Sv) (cn:List Value) (x:PS) (hst:St S (.sl (Ar sn) 139 4 x.nds.length cn::M) w) (hR:RL S cn x.nds) (hl:RSl S (Ar sl) l) (hi:AH l 0 x) (hf:8 * BN l x+1≤f+1) (hz:AP l x [105,102]=true) :
  Ad Tryz.prog 101 [Cv sl x.k si sn x.pts] w (CU S M sl si (I9 l g f x)):=by
 obtain ⟨R,hRR⟩:∃ R,I9 l g f x=R:=⟨_,rfl⟩
 rw [hRR];unfold I9 at hRR;simp only at hRR;have HR:=Lib.hid hRR.symm;clear hRR;have hp0:=hi.pts0;have hp1:=hi.pts1;have hP:Au x.pts:=by unfold Au;omega
 have m1:=Pv hi hz;have hpz:=ES hz;have m0:BI x (Al l { x with pts:=x.pts+1 } [105,102]):=A1 (l:=l) { x with pts:=x.pts+1 } _;have cM:=fun {M:List Chunk} (w:World) (hst:St S M w)=>Bj w hst sl si sn { x with pts:=x.pts+1 } hl hm [105,102]
 have hs1:=fun {M:List Chunk} (w:World) (hst:St S (.sl (Ar sn) 139 4 x.nds.length cn::M) w)=>CB (l:=l) (x:={ x with pts:=x.pts+1 }) (s:=[105,102]) hst
 have hr1:=CC (l:=l) (x:={ x with pts:=x.pts+1 }) (s:=[105,102]) hR;have r1:=Hj m0 m1.hi;have r0:=KN hpz.1 hpz.2;have cE:=fun {M:List Chunk} (w:World) (hst:St S (.sl (Ar sn) 139 4 x.nds.length cn::M) w)=>(Nu hm g).2 w sl si sn cn (Al l { x with pts:=x.pts+1 } [105,102]) 0 (by omega) (hs1 w hst) hr1 hl (m1.le (by omega)) (by have:=I0 (l:=l) (Al l { x with pts:=x.pts+1 } [105,102]);omega)
 generalize Al l { x with pts:=x.pts+1 } [105,102]=y at *;have m2:=(D4 (l:=l) g).1 _ _ 0 m1;have r2:=LA ((GS (l:=l) g).1 y 0 m1.lo).E m2.hi;generalize AV l g y 0=r at *;clear hz hpz m0 m1 hs1 hr1 hi;unfold Ad;go_enter Tryz.func101,Tryz.ntmps101;repeat' ((apply Z4 ());first|(apply gK ();go_step)|(apply kc ();refine sc (cM _ hst) ?_;clear hst;rintro v w ⟨rfl,hst⟩)|(apply kc ();refine sc (cE _ (hst.move (k:=3) rfl)) ?_;clear hst;rintro v w ⟨S1,sn1,cn1,hS1,rfl,hb1,hR1,hst⟩<;>(try replace hst:=nH hst))|apply sX ()|(apply sS ();clear hst;intro w hst)|(apply sB ();clear hst;intro bx w hst)|(apply sA ();clear hst;intro bk w hst)|fail)
 have cB:=fun {M:List Chunk} (w:World) (hst:St S1 (.sl (Ar sn1) 139 4 r.2.nds.length cn1::M) w)=>hB w sl si sn1 cn1 r.2 hst hR1 (hl.mono hS1) (m2.le (by omega)) (by omega)
 have m3:=(Et (l:=l) g f).2.1 _ _ m2;have r3:=LA ((GH (l:=l) g f).2.1 r.2 m2.lo).E m3.hi;generalize blockP l g f r.2=b at *;repeat' ((apply Z5 ());first|(apply gK ();go_step)|(apply kc ();refine sc (cB _ (hst.move (k:=1) rfl)) ?_;clear hst;rintro v w ⟨S2,sn2,cn2,hS2,rfl,hb2,hR2,hst⟩<;>(try replace hst:=nH hst))|apply sX ()|(apply sS ();clear hst;intro w hst)|(apply sA ();clear hst;intro bk w hst)|fail)
 clear cB cE;repeat' (first|(apply gK ();go_step)|fail)
 refine AA (vs:=[.int .i64 r.1,.int .i64 b.1]) hst Aa Aa rfl rfl (by simp [Value.cells]) rfl (by omega) (by omega) ?_;clear hst;intro xx w hst;obtain ⟨ax,cx,rfl⟩:=sl_formk (k:=0) hst rfl;(try refine nX ?_);repeat' ((apply Z6 ());first|(apply gK ();go_step)|apply sX ()|(apply sS ();clear hst;intro w hst)|fail)
 have cI:=fun {M:List Chunk} (w:World) (hst:St S2 M w)=>Cc w hst sl si sn2 b.2 (hl.mono (hS1.trans hS2)) hm [101,108,115,101]
 cases hz:AP l b.2 [101,108,115,101] with
 | true =>
  rw [hz] at cI;have cM2:=fun {M:List Chunk} (w:World) (hst:St S2 M w)=>Bj w hst sl si sn2 b.2 (hl.mono (hS1.trans hS2)) hm [101,108,115,101]
  have hs2:=fun {M:List Chunk} (w:World) (hst:St S2 (.sl (Ar sn2) 139 4 b.2.nds.length cn2::M) w)=>CB (l:=l) (x:=b.2) (s:=[101,108,115,101]) hst
  have hr2:=CC (l:=l) (x:=b.2) (s:=[101,108,115,101]) hR2;have m4:=AO (l:=l) [101,108,115,101] m3;have r4:=LA (A1 (l:=l) b.2 [101,108,115,101]).E m4.hi;generalize Al l b.2 [101,108,115,101]=y2 at *;have cB:=fun {M:List Chunk} (w:World) (hst:St S2 (.sl (Ar sn2) 139 4 b.2.nds.length cn2::M) w)=>hB w sl si sn2 cn2 y2 (hs2 w hst) hr2 (hl.mono (hS1.trans hS2)) (m4.le (by omega)) (by omega)
  have m5:=(Et (l:=l) g f).2.1 _ _ m4;generalize blockP l g f y2=c at *;clear hr2 m4 r4;have hz:=Lib.hid hz;repeat' ((apply Z8 ());first|(apply gK ();go_step)|(apply kc ();refine sc (cI _ hst) ?_;clear hst;rintro v w ⟨rfl,hst⟩)|(apply kc ();refine sc (cM2 _ hst) ?_;clear hst;rintro v w ⟨rfl,hst⟩)|(apply kc ();refine sc (cB _ (hst.move (k:=2) rfl)) ?_;clear hst;rintro v w ⟨S3,sn3,cn3,hS3,rfl,hb3,hR3,hst⟩<;>(try replace hst:=nH hst))|apply sX ()|(apply sS ();clear hst;intro w hst)|(apply sA ();clear hst;intro bk w hst)|fail)
  clear cB;repeat' (first|(apply gK ();go_step)|apply sX ()|fail)
  refine AA (vs:=[(.int .i64 c.1)]) hst Aa Aa rfl rfl (by simp [Value.cells]) rfl (by omega) (by omega) ?_;clear hst;intro u w hst;refine nX ?_;refine AG (j:=0) hst Ab Ab SlIn.h rfl Aa Aa Aa (by simp [Value.cells,Value.oneCell']) (by omega) (by omega) (by decide) ?_;clear hst;intro v' w hst;refine nX ?_;(try replace hst:=nH hst);replace hst:=hst.drop;obtain ⟨ay,cy,rfl⟩:=sl_formk (k:=2) hst rfl;(try refine nX ?_);repeat' ((apply V8 ());first|(apply gK ();go_step)|apply sX ()|(apply sS ();clear hst;intro w hst)|fail)
  obtain ⟨S4,hS4,hst2,hx⟩:=St.freeze (α:=Int) (hst.move (k:=2) rfl) (Zz (Aj hb1) (Aj hb2) (Aj hb3)) rfl;clear hst;have hst:=hst2;clear hst2;(try replace hst:=nH hst);have hb9:c.2.nds.length≤100000:=by have:=m5.nds;omega
  have cN:=fun {M:List Chunk} (w:World) (hst:St S4 (.sl (Ar sn3) 139 4 c.2.nds.length cn3::M) w)=>El w sl si sn3 cn3 c.2 hst (hR3.mono hS4) hb9 12 x.pts ⟨[]⟩ (ay,3,cy) [r.1,b.1,c.1] (Gi (Aj (by decide)) hP (by decide) hx)
  repeat' (first|(apply gK ();go_step)|(apply kc ();refine sc (cN _ (hst.move (k:=1) rfl)) ?_;clear hst;rintro v w ⟨S5,sn5,cn5,hS5,rfl,hb5,hR5,hst⟩<;>(try replace hst:=nH hst))|apply sX ()|(apply sS ();clear hst;intro w hst)|fail)
  refine A7 rfl (A3 rfl) (AT hst rfl _ BoxIn.h Aa rfl rfl) ?_;(try simp only [AX,List.drop_zero,List.drop_succ_cons,List.take_succ_cons,List.take_zero,As,Ap]);refine ⟨_,rfl,?_⟩;rw [show R=_ from HR.out.trans (if_pos hz.out)];exact ⟨S5,sn5,cn5,hS1.trans (hS2.trans (hS3.trans (hS4.trans hS5))),rfl,hb5,hR5,hst.sub⟩
 | false =>
  rw [hz] at cI;have hz:=Lib.hid hz;repeat' ((apply V8 ());first|(apply gK ();go_step)|(apply kc ();refine sc (cI _ hst) ?_;clear hst;rintro v w ⟨rfl,hst⟩)|apply sX ()|fail)
  obtain ⟨S4,hS4,hst2,hx⟩:=St.freeze (α:=Int) (hst.move (k:=0) rfl) (Hi (Aj hb1) (Aj hb2)) rfl;clear hst;have hst:=hst2;clear hst2;(try replace hst:=nH hst);have hb9:b.2.nds.length≤100000:=by have:=m3.nds;omega
  have cN:=fun {M:List Chunk} (w:World) (hst:St S4 (.sl (Ar sn2) 139 4 b.2.nds.length cn2::M) w)=>El w sl si sn2 cn2 b.2 hst (hR2.mono hS4) hb9 12 x.pts ⟨[]⟩ (ax,2,cx) [r.1,b.1] (Gi (Aj (by decide)) hP (by decide) hx)
  repeat' (first|(apply gK ();go_step)|(apply kc ();refine sc (cN _ (hst.move (k:=1) rfl)) ?_;clear hst;rintro v w ⟨S5,sn5,cn5,hS5,rfl,hb5,hR5,hst⟩<;>(try replace hst:=nH hst))|apply sX ()|(apply sS ();clear hst;intro w hst)|fail)
  refine A7 rfl (A3 rfl) (AT hst rfl _ BoxIn.h Aa rfl rfl) ?_;(try simp only [AX,List.drop_zero,List.drop_succ_cons,List.take_succ_cons,List.take_zero,As,Ap]);refine ⟨_,rfl,?_⟩;rw [show R=_ from HR.out.trans (if_neg (by rw [hz.out];decide))];exact ⟨S5,sn5,cn5,hS1.trans (hS2.trans (hS4.trans hS5)),rfl,hb5,hR5,hst.sub⟩
end
end Go.Proofs.YtmmbidoldegemaaGreatDoor
