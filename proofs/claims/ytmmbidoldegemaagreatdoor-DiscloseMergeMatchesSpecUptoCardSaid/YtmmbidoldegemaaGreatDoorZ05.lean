/- Part 6 of the proof that the law of the last part holds; no conditions. -/
import Derived.Test.YtmmbidoldegemaaGreatDoorZ04
set_option linter.unusedSimpArgs false
set_option linter.unusedVariables false
set_option maxRecDepth 8000
set_option maxHeartbeats 8000000
namespace Go.Proofs.YtmmbidoldegemaaGreatDoor
open Go.RowKit Go.Sl
section
variable {l:List Tk}
theorem OK {S M} (w:World) (hst:St S M w) (sl si sn:Sv) (x:PS) (hl:RSl S (Ar sl) l) (hm:l.length≤1500) (lv:Nat) (hlv:lv < 5) :
  Ad Tryz.prog 145 [Cv sl x.k si sn x.pts,.int .i64 (lv:Int)] w fun v w'=>v=.int .i64 (CG l x lv)∧St S M w':=by
 unfold Ad;have cI:=fun {M:List Chunk} (w:World) (hst:St S M w) s=>Cc w hst sl si sn x hl hm s
 have c1:=fun {M:List Chunk} (w:World) (hst:St S M w)=>cI w hst [124,124]
 have c2:=fun {M:List Chunk} (w:World) (hst:St S M w)=>cI w hst [38,38]
 have c3:=fun {M:List Chunk} (w:World) (hst:St S M w)=>cI w hst [60]
 have c4:=fun {M:List Chunk} (w:World) (hst:St S M w)=>cI w hst [61,61]
 have c5:=fun {M:List Chunk} (w:World) (hst:St S M w)=>cI w hst [43]
 have c6:=fun {M:List Chunk} (w:World) (hst:St S M w)=>cI w hst [45]
 have c7:=fun {M:List Chunk} (w:World) (hst:St S M w)=>cI w hst [42]
 clear cI;unfold CG;generalize AP l x [124,124]=z1 at *;generalize AP l x [38,38]=z2 at *;generalize AP l x [60]=z3 at *;generalize AP l x [61,61]=z4 at *;generalize AP l x [43]=z5 at *;generalize AP l x [45]=z6 at *;generalize AP l x [42]=z7 at *;generalize x.k=k at *;obtain ⟨a,n,c⟩:=sl;obtain ⟨ai,ni,ci⟩:=si;obtain ⟨an,nn,cn⟩:=sn;obtain rfl|rfl|rfl|rfl|rfl:lv=0∨lv=1∨lv=2∨lv=3∨lv=4:=by omega
 ·cases z1
  all_goals
   go_enter Tryz.func145,Tryz.ntmps145;repeat' (first|go_skip|apply sG ()|(apply gK ();go_step)|(apply kc ();refine sc (c1 _ hst) ?_;clear hst;rintro v w ⟨rfl,hst⟩)|apply sX ()|(apply sB ();clear hst;intro bx w hst)|fail)
   go_ret;exact ⟨_,rfl,rfl,hst.drop⟩
 ·cases z2
  all_goals
   go_enter Tryz.func145,Tryz.ntmps145;repeat' (first|go_skip|apply sG ()|(apply gK ();go_step)|(apply kc ();refine sc (c2 _ hst) ?_;clear hst;rintro v w ⟨rfl,hst⟩)|apply sX ()|(apply sB ();clear hst;intro bx w hst)|fail)
   go_ret;exact ⟨_,rfl,rfl,hst.drop⟩
 ·cases z3
  ·cases z4
   all_goals
    go_enter Tryz.func145,Tryz.ntmps145;repeat' (first|go_skip|apply sG ()|(apply gK ();go_step)|(apply kc ();refine sc (c3 _ hst) ?_;clear hst;rintro v w ⟨rfl,hst⟩)|(apply kc ();refine sc (c4 _ hst) ?_;clear hst;rintro v w ⟨rfl,hst⟩)|apply sX ()|(apply sB ();clear hst;intro bx w hst)|fail)
    go_ret;exact ⟨_,rfl,rfl,hst.drop⟩
  ·go_enter Tryz.func145,Tryz.ntmps145;repeat' (first|go_skip|apply sG ()|(apply gK ();go_step)|(apply kc ();refine sc (c3 _ hst) ?_;clear hst;rintro v w ⟨rfl,hst⟩)|apply sX ()|(apply sB ();clear hst;intro bx w hst)|fail)
   go_ret;exact ⟨_,rfl,rfl,hst.drop⟩
 ·cases z5
  ·cases z6
   all_goals
    go_enter Tryz.func145,Tryz.ntmps145;repeat' (first|go_skip|apply sG ()|(apply gK ();go_step)|(apply kc ();refine sc (c5 _ hst) ?_;clear hst;rintro v w ⟨rfl,hst⟩)|(apply kc ();refine sc (c6 _ hst) ?_;clear hst;rintro v w ⟨rfl,hst⟩)|apply sX ()|(apply sB ();clear hst;intro bx w hst)|fail)
    go_ret;exact ⟨_,rfl,rfl,hst.drop⟩
  ·go_enter Tryz.func145,Tryz.ntmps145;repeat' (first|go_skip|apply sG ()|(apply gK ();go_step)|(apply kc ();refine sc (c5 _ hst) ?_;clear hst;rintro v w ⟨rfl,hst⟩)|apply sX ()|(apply sB ();clear hst;intro bx w hst)|fail)
   go_ret;exact ⟨_,rfl,rfl,hst.drop⟩
 ·cases z7
  all_goals
   go_enter Tryz.func145,Tryz.ntmps145;repeat' (first|go_skip|apply sG ()|(apply gK ();go_step)|(apply kc ();refine sc (c7 _ hst) ?_;clear hst;rintro v w ⟨rfl,hst⟩)|apply sX ()|(apply sB ();clear hst;intro bx w hst)|fail)
   go_ret;exact ⟨_,rfl,rfl,hst.drop⟩
end
class SubM (M L:List Chunk):Prop where
 h:List.Sublist M L
instance (priority:=low) subM_cons {M L:List Chunk} {c:Chunk} [i:SubM M L]:SubM M (c::L):=⟨.cons _ i.h⟩
instance fu {M L:List Chunk} {c:Chunk} [i:SubM M L]:SubM (c::M) (c::L):=⟨.cons_cons _ i.h⟩
instance (priority:=high) subM_refl {M:List Chunk}:SubM M M:=⟨.refl _⟩
theorem _root_.Go.Sl.St.sub {S:Ac} {M L:List Chunk} {w:World} (hst:St S L w) [h:SubM M L]:St S M w :=
 ⟨hst.os,hst.tape,hst.output,hst.has,fun c hc=>hst.at_ c (h.h.subset hc),fun c hc=>hst.out c (h.h.subset hc),hst.apart.sublist h.h⟩
theorem Cg {S:Ac} {a:Int} (h:Au a):RL S [.int .i64 a] [a]:=RL.one_mk ⟨rfl,h⟩
theorem Hi {S:Ac} {a b:Int} (h:Au a) (k:Au b):RL S [.int .i64 a,.int .i64 b] [a,b]:=RL.append (c:=[_]) (Cg h) (Cg k)
theorem Aj {a:Int} (h:0≤a∧a≤100000):Au a:=by unfold Au;omega
theorem Gh {S:Ac}:RSl S (.slice none 0 0) ([]:List Int):=.inl ⟨none,0,rfl,rfl,by unfold maxLen;omega⟩
section
variable {l:List Tk}
theorem TO {S:Ac} {v:Value} (h:RSl S v l) {i:Nat} (hi:i < l.length):Au l[i].1∧l[i].2.1.b.length≤maxLen∧Au l[i].2.2.1:=by
 rcases h with ⟨ad,cap,rfl,rfl,_⟩|⟨b,o,cap,c,T,fz,rfl,_,_,_,hR⟩
 ·simp at hi
 ·have h:=hR.2 i l[i] (List.getElem?_eq_getElem hi);exact ⟨h.2.1.2,h.2.2.2.1.2,h.2.2.2.2.2.1.2⟩
theorem FM {S:Ac} {v:Value} (h:RSl S v l) (x:PS):(AI l x).1.b.length≤maxLen:=by
 by_cases h1:x.k < 0∨(l.length:Int)≤x.k
 ·rw [O9 h1];exact Nat.zero_le _
 ·have hlt:x.k.toNat < l.length:=by omega
  rw [Pa (k:=x.k.toNat) (by omega) hlt];split
  ·exact Nat.zero_le _
  ·exact (TO h hlt).2.1
theorem D8 {S:Ac} {v:Value} (h:RSl S v l) (x:PS):Au (AJ l x).1:=by
 cases hz:EC l x with
 | false=>rw [Mm hz];exact Aj (a:=0) (by decide)
 | true =>
  have hp:=O8 hz;rw [Mn (k:=x.k.toNat) (by omega) (by omega) hz];exact (TO h (by omega)).2.2
theorem CA (x:PS):(AI l x).2.nds=x.nds∧(AI l x).2.pts=x.pts∧(AI l x).2.ins=x.ins:=by
 unfold AI B6;split
 ·split<;>exact ⟨rfl,rfl,rfl⟩
 ·exact ⟨rfl,rfl,rfl⟩
theorem BS (x:PS):(AJ l x).2.nds=x.nds∧(AJ l x).2.pts=x.pts∧(AJ l x).2.ins=x.ins:=by
 unfold AJ B6;split
 ·split<;>exact ⟨rfl,rfl,rfl⟩
 ·exact ⟨rfl,rfl,rfl⟩
abbrev RM (l:List Tk) (f:Nat):Prop:=∀ {S M} (w:World) (sl si sn:Sv) (cn:List Value) (x:PS),St S (.sl (Ar sn) 139 4 x.nds.length cn::M) w→RL S cn x.nds→RSl S (Ar sl) l→AH l 0 x→8 * BN l x+1≤f →
  Ad Tryz.prog 144 [Cv sl x.k si sn x.pts] w (CU S M sl si (unaryP l f x))
abbrev Wb (l:List Tk) (f:Nat):Prop:=∀ {S M} (w:World) (sl si sn:Sv) (cn:List Value) (x:PS) (lv:Nat),lv≤5→St S (.sl (Ar sn) 139 4 x.nds.length cn::M) w→RL S cn x.nds→RSl S (Ar sl) l→AH l 0 x→8 * BN l x+7 - lv≤f →
  Ad Tryz.prog 135 [Cv sl x.k si sn x.pts,.int .i64 (lv:Int)] w (CU S M sl si (AV l f x lv))
theorem RX {f:Nat} {x:PS} (h:AP l x [33]=true):unaryP l (f+1) x=Bs (unaryP l f (Al l x [33])).2 (10,0,⟨[]⟩,[(unaryP l f (Al l x [33])).1],()):=by
 rw [unaryP];exact if_pos h
theorem RU {f:Nat} {x:PS} (h:AP l x [33]=false) (h2:AP l x [40]=true):unaryP l (f+1) x=((AV l f (Al l x [40]) 0).1,Al l (AV l f (Al l x [40]) 0).2 [41]):=by
 rw [unaryP];rw [if_neg (by rw [h];decide),if_pos h2]
theorem RW {f:Nat} {x:PS} (h:AP l x [33]=false) (h2:AP l x [40]=false) (h3:EC l x=true):unaryP l (f+1) x=Bs (AJ l x).2 (1,(AJ l x).1,⟨[]⟩,[],()):=by
 rw [unaryP];rw [if_neg (by rw [h];decide),if_neg (by rw [h2];decide),if_pos h3]
theorem P9 {f:Nat} {x:PS} (h:AP l x [33]=false) (h2:AP l x [40]=false) (h3:EC l x=false):unaryP l (f+1) x=Bs (AI l x).2 (2,0,(AI l x).1,[],()):=by
 rw [unaryP];rw [if_neg (by rw [h];decide),if_neg (by rw [h2];decide),if_neg (by rw [h3];decide)]
theorem Pc {x:PS} {s:List UInt8} (h:AP l x s=true) (hi:AH l 0 x):AH l 1 (Al l x s)∧BN l (Al l x s)+1≤BN l x:=by
 have hp:=ES h;refine ⟨AO _ hi,?_⟩;have hk:=Nf (l:=l) x s;rw [if_pos h] at hk;unfold BN;rw [if_neg (by omega),if_neg (by omega)];omega
theorem CB {S M} {w:World} {x:PS} {s:List UInt8} {v:Value} {T:TypeId} {c:List Value} (h:St S (.sl v T 4 x.nds.length c::M) w):St S (.sl v T 4 (Al l x s).nds.length c::M) w:=by rw [Bq];exact h
theorem CC {S:Ac} {x:PS} {s:List UInt8} {c:List Value} (h:RL S c x.nds):RL S c (Al l x s).nds:=by rw [Bq];exact h
theorem Bj {S M} (w:World) (hst:St S M w) (sl si sn:Sv) (x:PS) (hl:RSl S (Ar sl) l) (hm:l.length≤1500) (s:List UInt8) :
  Ad Tryz.prog 99 [Cv sl x.k si sn x.pts,.string ⟨s.toArray⟩] w fun v w'=>v=Cv sl (Al l x s).k si sn (Al l x s).pts∧St S M w':=by
 rw [GN];exact dC w hst sl si sn x hl hm s
theorem Fc {S M} (w:World) (hst:St S M w) (sl si sn:Sv) (x:PS) (hl:RSl S (Ar sl) l) (hm:l.length≤1500) :
  Ad Tryz.prog 100 [Cv sl x.k si sn x.pts] w fun v w'=>v=.tuple #[.int .i64 (AJ l x).1,Cv sl (AJ l x).2.k si sn (AJ l x).2.pts]∧St S M w':=by
 rw [(BS x).2.1];exact Xy w hst sl si sn x hl hm
theorem Hq {S M} (w:World) (hst:St S M w) (sl si sn:Sv) (x:PS) (hl:RSl S (Ar sl) l) (hm:l.length≤1500) :
  Ad Tryz.prog 98 [Cv sl x.k si sn x.pts] w fun v w'=>v=.tuple #[.string ⟨(AI l x).1.b.toArray⟩,Cv sl (AI l x).2.k si sn (AI l x).2.pts]∧St S M w':=by
 rw [(CA x).2.1];exact dA w hst sl si sn x hl hm
theorem TE (hm:l.length≤1500) {f:Nat} (hU:RM l f) {S M} (w:World) (sl si sn:Sv) (cn:List Value) (x:PS) (hst:St S (.sl (Ar sn) 139 4 x.nds.length cn::M) w) (hR:RL S cn x.nds) (hl:RSl S (Ar sl) l) (hi:AH l 0 x) (hf:8 * BN l x+1≤f+1) (hz:AP l x [33]=true) :
  Ad Tryz.prog 144 [Cv sl x.k si sn x.pts] w (CU S M sl si (unaryP l (f+1) x)):=by
 rw [RX hz];have c1:=fun {M:List Chunk} (w:World) (hst:St S M w)=>Cc w hst sl si sn x hl hm [33]
 rw [hz] at c1;have cM:=fun {M:List Chunk} (w:World) (hst:St S M w)=>Bj w hst sl si sn x hl hm [33]
 obtain ⟨m1,m2⟩:=Pc hz hi;have m3:=(D4 (l:=l) f).2.2 _ _ m1;have cU:=fun {M:List Chunk} (w:World) (hst:St S (.sl (Ar sn) 139 4 x.nds.length cn::M) w)=>hU w sl si sn cn (Al l x [33]) (CB hst) (CC hR) hl (m1.le (by omega)) (by omega)
 generalize Al l x [33]=y at *;generalize unaryP l f y=r at *;have hb3:r.2.nds.length≤100000:=by have:=m3.nds;omega
 clear hU hi hf hz m1 m2 m3;unfold Ad;go_enter Tryz.func144,Tryz.ntmps144;repeat' ((apply Z3 ());first|(apply gK ();go_step)|(apply kc ();refine sc (c1 _ hst) ?_;clear hst;rintro v w ⟨rfl,hst⟩)|(apply kc ();refine sc (cM _ hst) ?_;clear hst;rintro v w ⟨rfl,hst⟩)|(apply kc ();refine sc (cU _ (hst.move (k:=2) rfl)) ?_;clear hst;rintro v w ⟨S1,sn1,cn1,hS1,rfl,hb1,hR1,hst⟩<;>(try replace hst:=nH hst))|apply sX ()|(apply sS ();clear hst;intro w hst)|(apply sB ();clear hst;intro bx w hst)|(apply sA ();clear hst;intro bk w hst)|fail)
 repeat' (first|(apply gK ();go_step)|apply sX ()|fail)
 refine AA (vs:=[.int .i64 r.1]) hst Aa Aa rfl rfl (by simp [Value.cells]) rfl (by omega) (by omega) ?_;clear hst;intro xx w hst;obtain ⟨S2,hS2,hst2,hx⟩:=St.freeze (α:=Int) hst (Cg (Aj hb1)) rfl;clear hst;have hst:=hst2;clear hst2;obtain ⟨ax,nx,cx,rfl⟩:=BO hx;(try refine nX ?_);have cN:=fun {M:List Chunk} (w:World) (hst:St S2 (.sl (Ar sn1) 139 4 r.2.nds.length cn1::M) w)=>El w sl si sn1 cn1 r.2 hst (hR1.mono hS2) hb3 10 0 ⟨[]⟩ (ax,nx,cx) [r.1] (Gi (Aj (by decide)) (Aj (by decide)) (by decide) hx)
 repeat' (first|(apply gK ();go_step)|(apply kc ();refine sc (cN _ (hst.move (k:=1) rfl)) ?_;clear hst;rintro v w ⟨S3,sn3,cn3,hS3,rfl,hb3,hR3,hst⟩<;>(try replace hst:=nH hst))|(apply sS ();clear hst;intro w hst)|fail)
 apply iz ()
theorem TC (hm:l.length≤1500) {f:Nat} (hE:Wb l f) {S M} (w:World) (sl si sn:Sv) (cn:List Value) (x:PS) (hst:St S (.sl (Ar sn) 139 4 x.nds.length cn::M) w) (hR:RL S cn x.nds) (hl:RSl S (Ar sl) l) (hi:AH l 0 x) (hf:8 * BN l x+1≤f+1) (hz:AP l x [33]=false) (hz2:AP l x [40]=true) :
  Ad Tryz.prog 144 [Cv sl x.k si sn x.pts] w (CU S M sl si (unaryP l (f+1) x)):=by
 rw [RU hz hz2];have c1:=fun {M:List Chunk} (w:World) (hst:St S M w)=>Cc w hst sl si sn x hl hm [33]
 rw [hz] at c1;have c2:=fun {M:List Chunk} (w:World) (hst:St S M w)=>Cc w hst sl si sn x hl hm [40]
 rw [hz2] at c2;have cM:=fun {M:List Chunk} (w:World) (hst:St S M w)=>Bj w hst sl si sn x hl hm [40]
 obtain ⟨m1,m2⟩:=Pc hz2 hi;have cU:=fun {M:List Chunk} (w:World) (hst:St S (.sl (Ar sn) 139 4 x.nds.length cn::M) w)=>hE w sl si sn cn (Al l x [40]) 0 (by omega) (CB hst) (CC hR) hl (m1.le (by omega)) (by omega)
 generalize Al l x [40]=y at *;generalize AV l f y 0=r at *;clear hE hi hf hz hz2 m1 m2;unfold Ad;go_enter Tryz.func144,Tryz.ntmps144;repeat' ((apply Z6 ());first|(apply gK ();go_step)|(apply kc ();refine sc (c1 _ hst) ?_;clear hst;rintro v w ⟨rfl,hst⟩)|(apply kc ();refine sc (c2 _ hst) ?_;clear hst;rintro v w ⟨rfl,hst⟩)|(apply kc ();refine sc (cM _ hst) ?_;clear hst;rintro v w ⟨rfl,hst⟩)|(apply kc ();refine sc (cU _ (hst.move (k:=2) rfl)) ?_;clear hst;rintro v w ⟨S1,sn1,cn1,hS1,rfl,hb1,hR1,hst⟩<;>(try replace hst:=nH hst))|apply sX ()|(apply sS ();clear hst;intro w hst)|(apply sB ();clear hst;intro bx w hst)|(apply sA ();clear hst;intro bk w hst)|fail)
 have cM2:=fun {M:List Chunk} (w:World) (hst:St S1 M w)=>Bj w hst sl si sn1 r.2 (hl.mono hS1) hm [41]
 have hR2:=CC (l:=l) (s:=[41]) hR1;have hst2:=fun (w:World) (h:St S1 (.sl (Ar sn1) 139 4 r.2.nds.length cn1::M) w)=>CB (l:=l) (s:=[41]) h
 repeat' (first|(apply gK ();go_step)|(apply kc ();refine sc (cM2 _ hst) ?_;clear hst;rintro v w ⟨rfl,hst⟩)|apply sX ()|(apply sS ();clear hst;intro w hst)|fail)
 refine A7 rfl (A3 rfl) (AT hst rfl _ BoxIn.h Aa rfl rfl) ?_;(try simp only [AX,List.drop_zero,List.drop_succ_cons,List.take_succ_cons,List.take_zero,As,Ap]);exact ⟨_,rfl,S1,sn1,cn1,hS1,rfl,hb1,hR2,hst2 _ hst.sub⟩
theorem TD (hm:l.length≤1500) {f:Nat} {S M} (w:World) (sl si sn:Sv) (cn:List Value) (x:PS) (hst:St S (.sl (Ar sn) 139 4 x.nds.length cn::M) w) (hR:RL S cn x.nds) (hl:RSl S (Ar sl) l) (hi:AH l 0 x) (hz:AP l x [33]=false) (hz2:AP l x [40]=false) (hz3:EC l x=true) :
  Ad Tryz.prog 144 [Cv sl x.k si sn x.pts] w (CU S M sl si (unaryP l (f+1) x)):=by
 rw [RW hz hz2 hz3];have c1:=fun {M:List Chunk} (w:World) (hst:St S M w)=>Cc w hst sl si sn x hl hm [33]
 rw [hz] at c1;have c2:=fun {M:List Chunk} (w:World) (hst:St S M w)=>Cc w hst sl si sn x hl hm [40]
 rw [hz2] at c2;have c3:=fun {M:List Chunk} (w:World) (hst:St S M w)=>Sx w hst sl si sn x hl hm
 rw [hz3] at c3;obtain ⟨k1,k2,k3⟩:=BS (l:=l) x;have cM:=fun {M:List Chunk} (w:World) (hst:St S M w)=>Fc w hst sl si sn x hl hm
 have hb:x.nds.length≤100000:=by have:=hi.nds;omega
 have hI:=D8 hl x;rw [← k1] at hR hst hb;have cN:=fun {M:List Chunk} (w:World) (hst:St S (.sl (Ar sn) 139 4 (AJ l x).2.nds.length cn::M) w)=>El w sl si sn cn (AJ l x).2 hst hR hb 1 (AJ l x).1 ⟨[]⟩ (none,0,0) [] (Gi (Aj (by decide)) hI (by decide) Gh)
 generalize AJ l x=y at *;clear hi hz hz2 hz3 k1 k2 k3;unfold Ad;go_enter Tryz.func144,Tryz.ntmps144;repeat' (first|(apply gK ();go_step)|(apply kc ();refine sc (c1 _ hst) ?_;clear hst;rintro v w ⟨rfl,hst⟩)|(apply kc ();refine sc (c2 _ hst) ?_;clear hst;rintro v w ⟨rfl,hst⟩)|(apply kc ();refine sc (c3 _ hst) ?_;clear hst;rintro v w ⟨rfl,hst⟩)|(apply kc ();refine sc (cM _ hst) ?_;clear hst;rintro v w ⟨rfl,hst⟩)|(apply kc ();refine sc (cN _ (hst.move (k:=3) rfl)) ?_;clear hst;rintro v w ⟨S1,sn1,cn1,hS1,rfl,hb1,hR1,hst⟩<;>(try replace hst:=nH hst))|apply sX ()|(apply sS ();clear hst;intro w hst)|(apply sB ();clear hst;intro bx w hst)|(apply sA ();clear hst;intro bk w hst)|fail)
 apply iD ()
theorem RT (hm:l.length≤1500) {f:Nat} {S M} (w:World) (sl si sn:Sv) (cn:List Value) (x:PS) (hst:St S (.sl (Ar sn) 139 4 x.nds.length cn::M) w) (hR:RL S cn x.nds) (hl:RSl S (Ar sl) l) (hi:AH l 0 x) (hz:AP l x [33]=false) (hz2:AP l x [40]=false) (hz3:EC l x=false) :
  Ad Tryz.prog 144 [Cv sl x.k si sn x.pts] w (CU S M sl si (unaryP l (f+1) x)):=by
 rw [P9 hz hz2 hz3];have c1:=fun {M:List Chunk} (w:World) (hst:St S M w)=>Cc w hst sl si sn x hl hm [33]
 rw [hz] at c1;have c2:=fun {M:List Chunk} (w:World) (hst:St S M w)=>Cc w hst sl si sn x hl hm [40]
 rw [hz2] at c2;have c3:=fun {M:List Chunk} (w:World) (hst:St S M w)=>Sx w hst sl si sn x hl hm
 rw [hz3] at c3;obtain ⟨k1,k2,k3⟩:=CA (l:=l) x;have cM:=fun {M:List Chunk} (w:World) (hst:St S M w)=>Hq w hst sl si sn x hl hm
 have hb:x.nds.length≤100000:=by have:=hi.nds;omega
 have hI:=FM hl x;rw [← k1] at hR hst hb;have cN:=fun {M:List Chunk} (w:World) (hst:St S (.sl (Ar sn) 139 4 (AI l x).2.nds.length cn::M) w)=>El w sl si sn cn (AI l x).2 hst hR hb 2 0 (AI l x).1 (none,0,0) [] (Gi (Aj (by decide)) (Aj (by decide)) hI Gh)
 generalize AI l x=y at *;clear hi hz hz2 hz3 k1 k2 k3;unfold Ad;go_enter Tryz.func144,Tryz.ntmps144;repeat' (first|(apply gK ();go_step)|(apply kc ();refine sc (c1 _ hst) ?_;clear hst;rintro v w ⟨rfl,hst⟩)|(apply kc ();refine sc (c2 _ hst) ?_;clear hst;rintro v w ⟨rfl,hst⟩)|(apply kc ();refine sc (c3 _ hst) ?_;clear hst;rintro v w ⟨rfl,hst⟩)|(apply kc ();refine sc (cM _ hst) ?_;clear hst;rintro v w ⟨rfl,hst⟩)|(apply kc ();refine sc (cN _ (hst.move (k:=3) rfl)) ?_;clear hst;rintro v w ⟨S1,sn1,cn1,hS1,rfl,hb1,hR1,hst⟩<;>(try replace hst:=nH hst))|apply sX ()|(apply sS ();clear hst;intro w hst)|(apply sB ();clear hst;intro bx w hst)|(apply sA ();clear hst;intro bk w hst)|fail)
 apply iD ()
theorem RS (hm:l.length≤1500) {f:Nat} (hU:RM l f) (hE:Wb l f):RM l (f+1):=fun {S M} w sl si sn cn x hst hR hl hi hf=>by
 cases hz:AP l x [33] with
 | true=>exact TE hm hU w sl si sn cn x hst hR hl hi hf hz
 | false =>
  cases hz2:AP l x [40] with
  | true=>exact TC hm hE w sl si sn cn x hst hR hl hi hf hz hz2
  | false =>
   cases hz3:EC l x with
   | true=>exact TD hm w sl si sn cn x hst hR hl hi hz hz2 hz3
   | false=>exact RT hm w sl si sn cn x hst hR hl hi hz hz2 hz3
end
def Rj (w:World):Value→Int
 | .pointer (some ⟨b,_,_⟩)=>match w.heap[b]? with
  | some (.cells c _ _)=>match c.toList with
   | _::.int _ k::_=>k
   | _=>0
  | _=>0
 | _=>0
theorem GR {S:Ac} {M:List Chunk} {w:World} {b o i:Nat} {T:TypeId} {v:Value} {kk:IntKind} {k:Int} {r:List Value} (h:St S M w) (hk:M[i]? = some (.box b (v::.int kk k::r) T)):Rj w (.pointer (some ⟨b,o,none⟩))=k:=by
 have h1:w.heap[b]? = some (.cells (v::.int kk k::r).toArray T (0,0)):=h.get hk;simp only [Rj,h1]
abbrev Oi (sl:Sv) (k:Int) (si sn:Sv) (pts:Int):List Value:=[.slice sl.1 sl.2.1 sl.2.2,.int .i64 k,.slice si.1 si.2.1 si.2.2,.slice sn.1 sn.2.1 sn.2.2,.int .i64 0,.int .i64 pts]
def Iv (n:Nat) (k:Int):Nat:=if k < 0 then 0 else n+1 - k.toNat
section
variable {l:List Tk}
theorem aI {f:Nat} {x:PS}:AV l (f+1) x 5=unaryP l f x:=by rw [AV];exact if_pos rfl
theorem X4 {f:Nat} {x:PS} {lv:Nat} (h:lv≠5):AV l (f+1) x lv=opsP l f (AV l f x (lv+1)).1 (AV l f x (lv+1)).2 lv:=by rw [AV];exact if_neg h
theorem ZN {g:Nat} {a:Int} {y:PS} {lv:Nat} (h:¬ CG l y lv > 0):opsP l (g+1) a y lv=(a,y):=by
 rw [opsP];simp only;rw [if_neg h]
theorem Xt {g:Nat} {a:Int} {y:PS} (h:CG l y 2 > 0):opsP l (g+1) a y 2=Bs (AV l g { y with k:=y.k+1 } 3).2 (CG l y 2,0,⟨[]⟩,[a,(AV l g { y with k:=y.k+1 } 3).1],()):=by
 rw [opsP];simp only;rw [if_pos h];simp
theorem Xs {g:Nat} {a:Int} {y:PS} {lv:Nat} (h:CG l y lv > 0) (h2:lv≠2):opsP l (g+1) a y lv=opsP l g (Bs (AV l g { y with k:=y.k+1 } (lv+1)).2 (CG l y lv,0,⟨[]⟩,[a,(AV l g { y with k:=y.k+1 } (lv+1)).1],())).1 (Bs (AV l g { y with k:=y.k+1 } (lv+1)).2 (CG l y lv,0,⟨[]⟩,[a,(AV l g { y with k:=y.k+1 } (lv+1)).1],())).2 lv:=by
 rw [opsP];simp only;rw [if_pos h,if_neg h2]
theorem WG (x:PS) (lv:Nat):0≤CG l x lv∧CG l x lv≤100000:=by
 unfold CG
 repeat' split
 all_goals omega
theorem Vq (hm:l.length≤1500) {f:Nat} (hU:RM l f) {S M} (w:World) (sl si sn:Sv) (cn:List Value) (x:PS) (hst:St S (.sl (Ar sn) 139 4 x.nds.length cn::M) w) (hR:RL S cn x.nds) (hl:RSl S (Ar sl) l) (hi:AH l 0 x) (hf:8 * BN l x+7 - 5≤f+1) :
  Ad Tryz.prog 135 [Cv sl x.k si sn x.pts,.int .i64 5] w (CU S M sl si (AV l (f+1) x 5)):=by
 rw [aI];have cU:=fun {M:List Chunk} (w:World) (hst:St S (.sl (Ar sn) 139 4 x.nds.length cn::M) w)=>hU w sl si sn cn x hst hR hl hi (by omega)
 clear hU hi hf;unfold Ad;go_enter Tryz.func135,Tryz.ntmps135;repeat' (first|(apply gK ();go_step)|(apply kc ();refine sc (cU _ (hst.move (k:=2) rfl)) ?_;clear hst;rintro v w ⟨S1,sn1,cn1,hS1,rfl,hb1,hR1,hst⟩<;>(try replace hst:=nH hst))|apply sX ()|(apply sS ();clear hst;intro w hst)|(apply sB ();clear hst;intro bx w hst)|(apply sA ();clear hst;intro bk w hst)|fail)
 apply iD ()
theorem aH (hm:l.length≤1500) {f:Nat} (hE:∀ g,g≤f→Wb l g) {S M} (w:World) (sl si sn:Sv) (cn:List Value) (x:PS) (lv:Nat) (hlv:lv < 5) (hst:St S (.sl (Ar sn) 139 4 x.nds.length cn::M) w) (hR:RL S cn x.nds) (hl:RSl S (Ar sl) l) (hi:AH l 0 x) (hf:8 * BN l x+7 - lv≤f+1) :
  Ad Tryz.prog 135 [Cv sl x.k si sn x.pts,.int .i64 (lv:Int)] w (CU S M sl si (AV l (f+1) x lv)):=by
 rw [X4 (by omega)];have cE:=fun {M:List Chunk} (w:World) (hst:St S (.sl (Ar sn) 139 4 x.nds.length cn::M) w)=>hE f (Nat.le_refl _) w sl si sn cn x (lv+1) (by omega) hst hR hl hi (by omega)
 have m3:=(D4 (l:=l) f).1 _ _ (lv+1) hi;have m4:=(GS (l:=l) f).1 _ (lv+1) hi.lo;have m5:8 * BN l (AV l f x (lv+1)).2+1≤f:=by rcases Hj m4 m3.hi with h|h<;>omega
 generalize AV l f x (lv+1)=r at *;clear hi hf hR m4;obtain ⟨R,hRR⟩:∃ R,opsP l f r.1 r.2 lv=R:=⟨_,rfl⟩
 have HR:=Lib.hid hRR;rw [hRR];clear hRR;unfold Ad;go_enter Tryz.func135,Tryz.ntmps135;repeat' ((apply Z1 ());first|(apply gK ();go_step)|(apply sB ();clear hst;intro bx w hst)|(apply sA ();clear hst;intro bk w hst)|fail)
 obtain ⟨b5,rfl⟩:∃ b,b=bk:=⟨_,rfl⟩
 repeat' ((apply Z4 ());first|(apply gK ();go_step)|(apply kc ();refine sc (cE _ (hst.move (k:=2) rfl)) ?_;clear hst;rintro v w ⟨S1,sn1,cn1,hS1,rfl,hb1,hR1,hst⟩<;>(try replace hst:=nH hst))|apply sX ()|(apply sS ();clear hst;intro w hst)|(apply sA ();clear hst;intro bk w hst)|fail)
 have cS:=fun {M:List Chunk} (w:World) (hst:St S1 M w)=>OK w hst sl si sn1 r.2 (hl.mono hS1) hm lv hlv
 repeat' (first|(apply gK ();go_step)|(apply kc ();refine sc (cS _ hst) ?_;clear hst;rintro v w ⟨rfl,hst⟩)|apply sX ()|fail)
 clear cS
 go_loopw [6,8] (fun u6 u8 wr=>∃ (g:Nat) (a:Int) (y:PS) (T:Ac) (sn':Sv) (cn':List Value),S.Le T∧u6=.int .i64 a∧u8=.int .i64 (CG l y lv)∧Hid (opsP l g a y lv=R)∧(0≤a∧a≤100000)∧AH l 0 y∧(8 * BN l y+1≤g∧g≤f)∧RL T cn' y.nds∧St T (.box bk (Oi sl y.k si sn' y.pts) 132::.sl (Ar sn') 139 4 y.nds.length cn'::.box b5 (Oi (none,0,0) 0 (none,0,0) (none,0,0) 0) 132::.box bx (Oi sl x.k si sn x.pts) 132::M) wr) (fun _ _ wr=>Iv l.length (Rj wr (.pointer (some ⟨bk,0,none⟩))))
 case atStart=>exact ⟨f,r.1,r.2,S1,sn1,cn1,hS1,rfl,rfl,HR,hb1,m3,⟨m5,Nat.le_refl _⟩,hR1,hst⟩
 case round =>
  clear hst hR1 hb1 m3 m5 HR hS1 cE;obtain ⟨g,a,y,T,sn',cn',hT,rfl,rfl,HR,hb,hi,hg,hR,hst⟩:=hrel;have hk0:=Lib.hid (GR (o:=0) (i:=0) hst rfl);by_cases h:CG l y lv > 0
  ·have hp:=J3 h;obtain ⟨g,rfl⟩:∃ g',g=g'+1:=⟨g - 1,by omega⟩
   have hi1:=OG hi hp
   have hr1:BN l ({ y with k:=y.k+1 }:PS)+1≤BN l y:=by
    unfold BN;rw [if_neg (by simp only;omega),if_neg (by omega)];simp only;omega
   have hkd:=WG (l:=l) y lv;have e2:lv=2→opsP l (g+1) a y lv=Bs (AV l g { y with k:=y.k+1 } (lv+1)).2 (CG l y lv,0,⟨[]⟩,[a,(AV l g { y with k:=y.k+1 } (lv+1)).1],()):=fun e=>by subst e;exact Xt h
   have e3:=Xs (l:=l) (g:=g) (a:=a) h;generalize hy1:({ y with k:=y.k+1 }:PS)=y1 at *;have y1k:y1.k=y.k+1:=by rw [← hy1]
   have y1n:y1.nds=y.nds:=by rw [← hy1]
   have y1p:y1.pts=y.pts:=by rw [← hy1]
   have cE:=fun {M:List Chunk} (w:World) (hst:St T (.sl (Ar sn') 139 4 y.nds.length cn'::M) w)=>hE g (by omega) w sl si sn' cn' y1 (lv+1) (by omega) (by rw [y1n];exact hst) (by rw [y1n];exact hR) (hl.mono hT) (hi1.le (by omega)) (by omega)
   rw [y1k,y1p] at cE;have m3:=(D4 (l:=l) g).1 _ _ (lv+1) hi1;have m4:=(GS (l:=l) g).1 _ (lv+1) hi1.lo;have m6:=Hj m4 m3.hi;generalize AV l g y1 (lv+1)=r2 at *;have Y1:=Lib.hid y1k;clear hy1 hi1 y1k y1n y1p;generalize CG l y lv=kd at *;repeat' ((apply Z8 ());first|(apply gK ();go_step)|(apply kc ();refine sc (cE _ (hst.move (k:=1) rfl)) ?_;clear hst;rintro v w ⟨S2,sn2,cn2,hS2,rfl,hb2,hR2,hst⟩<;>(try replace hst:=nH hst))|apply sX ()|(apply sS ();clear hst;intro w hst)|(apply sA ();clear hst;intro bk w hst)|fail)
   clear cE;repeat' (first|(apply gK ();go_step)|apply sX ()|fail)
   refine AA (vs:=[.int .i64 a,.int .i64 r2.1]) hst Aa Aa rfl rfl (by simp [Value.cells]) rfl (by omega) (by omega) ?_;clear hst;intro xx w hst;obtain ⟨S3,hS3,hst2,hx⟩:=St.freeze (α:=Int) hst (Hi (Aj hb) (Aj hb2)) rfl;clear hst;have hst:=hst2;clear hst2;obtain ⟨ax,nx,cx,rfl⟩:=BO hx;(try refine nX ?_);have hb3:r2.2.nds.length≤100000:=by have:=m3.nds;omega
   have cN:=fun {M:List Chunk} (w:World) (hst:St S3 (.sl (Ar sn2) 139 4 r2.2.nds.length cn2::M) w)=>El w sl si sn2 cn2 r2.2 hst (hR2.mono hS3) hb3 kd 0 ⟨[]⟩ (ax,nx,cx) [a,r2.1] (Gi (Aj hkd) (Aj (by decide)) (by decide) hx)
   have n3:=De (kd,0,⟨[]⟩,[a,r2.1],()) m3;have n4:=Em r2.2 (kd,0,⟨[]⟩,[a,r2.1],());generalize Bs r2.2 (kd,0,⟨[]⟩,[a,r2.1],())=q at *;have hq:BN l q.2=BN l r2.2:=by unfold BN;rw [n4]
   have N4:=Lib.hid n4;clear n4 m3;repeat' ((apply Z9 ());first|(apply gK ();go_step)|(apply kc ();refine sc (cN _ (hst.move (k:=1) rfl)) ?_;clear hst;rintro v w ⟨S4,sn4,cn4,hS4,rfl,hb4,hR4,hst⟩<;>(try replace hst:=nH hst))|(apply sS ();clear hst;intro w hst)|fail)
   clear cN;have hSa:=hT.trans (hS2.trans (hS3.trans hS4));by_cases e:lv=2
   ·have HQ:=Lib.hid (HR.out.symm.trans (e2 e));have hE2:2≤lv∧lv≤2:=by omega
    clear e2 e3 e HR;repeat' (first|(apply gK ();go_step)|fail)
    refine AF hst kr ?_;clear hst;intro ops;(try refine nX ?_);refine td 0 rfl ?_;refine td 1 rfl ?_;refine td 2 rfl ?_;refine AR 3 rfl kr ?_;intro w hst K hK;(refine AB hst rfl _ BoxIn.h Aa Ab rfl A6 A5 (by simp<;>omega) ?_);clear hst;intro w hst;(try refine nX ?_);(try replace hst:=nH hst);refine Bb hK hst ?_;clear hst hK K;(try clear w);(try refine nX ?_);refine AK kr ?_;clear ops;intro w hst;repeat' (first|(apply gK ();go_step)|fail)
    refine A7 rfl (A3 rfl) (AT hst rfl _ BoxIn.h Aa rfl rfl) ?_;(try simp only [AX,List.drop_zero,List.drop_succ_cons,List.take_succ_cons,List.take_zero,As,Ap]);refine ⟨_,rfl,?_⟩;rw [HQ.out];exact ⟨S4,sn4,cn4,hSa,rfl,hb4,hR4,hst.sub⟩
   ·have HQ:=Lib.hid ((e3 e).symm.trans HR.out);have e':lv < 2∨2 < lv:=by omega
    clear e2 e3 HR;have cS:=fun {M:List Chunk} (w:World) (hst:St S4 M w)=>OK w hst sl si sn4 q.2 (hl.mono hSa) hm lv hlv
    repeat' (first|(apply gK ();go_step)|(apply kc ();refine sc (cS _ hst) ?_;clear hst;rintro v w ⟨rfl,hst⟩)|apply sX ()|fail)
    go_roundw
    case rel =>
     exact ⟨g,q.1,q.2,S4,sn4,cn4,hSa,rfl,rfl,HQ,hb4,n3,⟨by omega,by omega⟩,hR4,(St.swap hst.sub)⟩
    case measure =>
     have h1:=GR (o:=0) (i:=2) hst rfl;rw [hk0.out,h1];have h2:=m4;unfold BI at h2;rw [Y1.out] at h2;rw [N4.out];have h3:=n3.hi;rw [N4.out] at h3;unfold Iv;split<;>split<;>omega
  ·obtain ⟨g,rfl⟩:∃ g',g=g'+1:=⟨g - 1,by omega⟩
   have HQ:=Lib.hid (HR.out.symm.trans (ZN h));clear HR;generalize CG l y lv=kd at *;repeat' (first|(apply gK ();go_step)|fail)
   refine AF hst kr ?_;clear hst;intro ops;(try refine nX ?_);refine td 0 rfl ?_;refine td 1 rfl ?_;refine td 2 rfl ?_;refine AR 3 rfl kr ?_;intro w hst K hK;(refine AB hst rfl _ BoxIn.h Aa Ab rfl A6 A5 (by simp<;>omega) ?_);clear hst;intro w hst;(try refine nX ?_);(try replace hst:=nH hst);refine Bb hK hst ?_;clear hst hK K;(try clear w);(try refine nX ?_);refine AK kr ?_;clear ops;intro w hst;repeat' (first|(apply gK ();go_step)|fail)
   refine A7 rfl (A3 rfl) (AT hst rfl _ BoxIn.h Aa rfl rfl) ?_;(try simp only [AX,List.drop_zero,List.drop_succ_cons,List.take_succ_cons,List.take_zero,As,Ap]);refine ⟨_,rfl,?_⟩;rw [HQ.out];exact ⟨T,sn',cn',hT,rfl,hb,hR,hst.sub⟩
theorem Nu (hm:l.length≤1500):∀ f,RM l f∧Wb l f:=by
 have H:∀ n f,f≤n→RM l f∧Wb l f:=by
  intro n
  induction n with
  | zero =>
   intro f hf;obtain rfl:f=0:=by omega
   exact ⟨fun w sl si sn cn x _ _ _ _ h=>absurd h (by omega),fun w sl si sn cn x lv h5 _ _ _ _ h=>absurd h (by omega)⟩
  | succ n ih =>
   intro f hf;by_cases h:f≤n
   ·exact ih f h
   ·obtain rfl:f=n+1:=by omega
    refine ⟨RS hm (ih n (Nat.le_refl _)).1 (ih n (Nat.le_refl _)).2,fun w sl si sn cn x lv h5 hst hR hl hi h=>?_⟩;by_cases e:lv=5
    ·subst e;exact Vq hm (ih n (Nat.le_refl _)).1 w sl si sn cn x hst hR hl hi h
    ·exact aH hm (fun g hg=>(ih g hg).2) w sl si sn cn x lv (by omega) hst hR hl hi h
 exact fun f=>H f f (Nat.le_refl _)
end
end Go.Proofs.YtmmbidoldegemaaGreatDoor
