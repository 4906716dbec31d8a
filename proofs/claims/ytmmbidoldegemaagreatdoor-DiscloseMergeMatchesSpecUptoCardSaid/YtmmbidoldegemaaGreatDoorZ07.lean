/- Part 8 of the proof that the law of the last part holds; no conditions. -/
import Derived.Test.YtmmbidoldegemaaGreatDoorZ06
set_option linter.unusedSimpArgs false
set_option linter.unusedVariables false
set_option maxRecDepth 8000
set_option maxHeartbeats 8000000
namespace Go.Proofs.YtmmbidoldegemaaGreatDoor
open Go.RowKit Go.Sl
section
variable {l:List Tk}
theorem Wy (hm:l.length≤1500) {g f:Nat} (hB:RO l g f) {S M} (w:World) (sl si sn:Sv) (cn:List Value) (x:PS) (hst:St S (.sl (Ar sn) 139 4 x.nds.length cn::M) w) (hR:RL S cn x.nds) (hl:RSl S (Ar sl) l) (hi:AH l 0 x) (hf:8 * BN l x+1≤f+1) (hz:AP l x [105,102]=false) (hz2:AP l x [114,101,112,101,97,116]=true) :
  Ad Tryz.prog 61 [Cv sl x.k si sn x.pts] w (CU S M sl si (BZ l g (f+1) x)):=by
 rw [TX hz hz2];have c1:=fun {M:List Chunk} (w:World) (hst:St S M w)=>Cc w hst sl si sn x hl hm [105,102]
 rw [hz] at c1;have c2:=fun {M:List Chunk} (w:World) (hst:St S M w)=>Cc w hst sl si sn x hl hm [114,101,112,101,97,116]
 rw [hz2] at c2;have hpz:=ES hz2;have r0:=KN hpz.1 hpz.2;have cM:=fun {M:List Chunk} (w:World) (hst:St S M w)=>Bj w hst sl si sn x hl hm [114,101,112,101,97,116]
 have cA:=fun {M:List Chunk} (w:World) (hst:St S M w)=>Fc w hst sl si sn (Al l x [114,101,112,101,97,116]) hl hm
 have hs1:=fun {M:List Chunk} (w:World) (hst:St S (.sl (Ar sn) 139 4 x.nds.length cn::M) w)=>N0 (l:=l) (CB (l:=l) (s:=[114,101,112,101,97,116]) hst)
 have hr1:=N1 (l:=l) (CC (l:=l) (s:=[114,101,112,101,97,116]) hR);have m1:=CL (AO (l:=l) [114,101,112,101,97,116] hi);have r1:=Hj ((A1 (l:=l) x [114,101,112,101,97,116]).tr (Dz (l:=l) _)) m1.hi;have hnl:=D8 hl (Al l x [114,101,112,101,97,116]);generalize Al l x [114,101,112,101,97,116]=y0 at *;generalize AJ l y0=r at *;have cB:=fun {M:List Chunk} (w:World) (hst:St S (.sl (Ar sn) 139 4 x.nds.length cn::M) w)=>hB w sl si sn cn r.2 (hs1 w hst) hr1 hl (m1.le (by omega)) (by omega)
 have m3:=(Et (l:=l) g f).2.1 _ _ m1;generalize blockP l g f r.2=b at *;clear hi hz hz2 m1 hs1 hr1 r0 r1 hpz;unfold Ad;go_enter Tryz.func61,Tryz.ntmps61;repeat' ((apply Z6 ());first|(apply gK ();go_step)|(apply kc ();refine sc (c1 _ hst) ?_;clear hst;rintro v w ⟨rfl,hst⟩)|(apply kc ();refine sc (c2 _ hst) ?_;clear hst;rintro v w ⟨rfl,hst⟩)|(apply kc ();refine sc (cM _ hst) ?_;clear hst;rintro v w ⟨rfl,hst⟩)|(apply kc ();refine sc (cA _ hst) ?_;clear hst;rintro v w ⟨rfl,hst⟩)|(apply kc ();refine sc (cB _ (hst.move (k:=3) rfl)) ?_;clear hst;rintro v w ⟨S1,sn1,cn1,hS1,rfl,hb1,hR1,hst⟩<;>(try replace hst:=nH hst))|apply sX ()|(apply sS ();clear hst;intro w hst)|(apply sB ();clear hst;intro bx w hst)|(apply sA ();clear hst;intro bk w hst)|fail)
 repeat' (first|(apply gK ();go_step)|apply sX ()|fail)
 refine AA (vs:=[.int .i64 b.1]) hst Aa Aa rfl rfl (by simp [Value.cells]) rfl (by omega) (by omega) ?_;clear hst;intro xx w hst;obtain ⟨S2,hS2,hst2,hx⟩:=St.freeze (α:=Int) hst (Cg (Aj hb1)) rfl;clear hst;have hst:=hst2;clear hst2;obtain ⟨ax,nx,cx,rfl⟩:=BO hx;(try refine nX ?_);have hb3:b.2.nds.length≤100000:=by have:=m3.nds;omega
 have cN:=fun {M:List Chunk} (w:World) (hst:St S2 (.sl (Ar sn1) 139 4 b.2.nds.length cn1::M) w)=>El w sl si sn1 cn1 b.2 hst (hR1.mono hS2) hb3 13 r.1 ⟨[]⟩ (ax,nx,cx) [b.1] (Gi (Aj (by decide)) hnl (by decide) hx)
 repeat' (first|(apply gK ();go_step)|(apply kc ();refine sc (cN _ (hst.move (k:=1) rfl)) ?_;clear hst;rintro v w ⟨S3,sn3,cn3,hS3,rfl,hb3,hR3,hst⟩<;>(try replace hst:=nH hst))|(apply sS ();clear hst;intro w hst)|fail)
 apply iz ()
theorem TW (hm:l.length≤1500) {g f:Nat} (hg:8 * l.length+7≤g) (hB:RO l g f):Y0 l g (f+1):=fun {S M} w sl si sn cn x hst hR hl hi hf=>by
 cases hz:AP l x [105,102] with
 | true =>
  rw [Wz hz];have c1:=fun {M:List Chunk} (w:World) (hst:St S M w)=>Cc w hst sl si sn x hl hm [105,102]
  rw [hz] at c1;have cB:=fun {M:List Chunk} (w:World) (hst:St S (.sl (Ar sn) 139 4 x.nds.length cn::M) w)=>Yv hm hg hB w sl si sn cn x hst hR hl hi hf hz
  generalize I9 l g f x=r at *;clear hi hz hf hB;unfold Ad;go_enter Tryz.func61,Tryz.ntmps61;repeat' (first|(apply gK ();go_step)|(apply kc ();refine sc (c1 _ hst) ?_;clear hst;rintro v w ⟨rfl,hst⟩)|(apply kc ();refine sc (cB _ (hst.move (k:=2) rfl)) ?_;clear hst;rintro v w ⟨S1,sn1,cn1,hS1,rfl,hb1,hR1,hst⟩<;>(try replace hst:=nH hst))|apply sX ()|(apply sS ();clear hst;intro w hst)|(apply sB ();clear hst;intro bx w hst)|(apply sA ();clear hst;intro bk w hst)|fail)
  apply iD ()
 | false =>
  cases hz2:AP l x [114,101,112,101,97,116] with
  | true=>exact Wy hm hB w sl si sn cn x hst hR hl hi hf hz hz2
  | false =>
   rw [OF hz hz2];have c1:=fun {M:List Chunk} (w:World) (hst:St S M w)=>Cc w hst sl si sn x hl hm [105,102]
   rw [hz] at c1;have c2:=fun {M:List Chunk} (w:World) (hst:St S M w)=>Cc w hst sl si sn x hl hm [114,101,112,101,97,116]
   rw [hz2] at c2;have cB:=fun {M:List Chunk} (w:World) (hst:St S (.sl (Ar sn) 139 4 x.nds.length cn::M) w)=>WE hm hg w sl si sn cn x hst hR hl hi
   generalize C0 l g x=r at *;clear hi hz hf hB hz2;unfold Ad;go_enter Tryz.func61,Tryz.ntmps61;repeat' (first|(apply gK ();go_step)|(apply kc ();refine sc (c1 _ hst) ?_;clear hst;rintro v w ⟨rfl,hst⟩)|(apply kc ();refine sc (c2 _ hst) ?_;clear hst;rintro v w ⟨rfl,hst⟩)|(apply kc ();refine sc (cB _ (hst.move (k:=2) rfl)) ?_;clear hst;rintro v w ⟨S1,sn1,cn1,hS1,rfl,hb1,hR1,hst⟩<;>(try replace hst:=nH hst))|apply sX ()|(apply sS ();clear hst;intro w hst)|(apply sB ();clear hst;intro bx w hst)|(apply sA ();clear hst;intro bk w hst)|fail)
   apply iD ()
theorem LG {n:Nat} {a b:Int} (h:0≤a) (ha:a≤n) (h2:b = -1∨a < b) (hb:b≤n):Iv n b < Iv n a:=by
 unfold Iv;rw [if_neg (show ¬ a < 0 by omega)];split<;>omega
theorem OU {x y:PS} (h:BI x y) (hy:y.k≤l.length) (h0:0≤y.k):BN l y+1≤BN l x:=by
 unfold BI at h;unfold BN;rw [if_neg (by omega),if_neg (by omega)];omega
theorem Tj (hm:l.length≤1500) {g f:Nat} (hS:∀ h,h≤f→Y0 l g h):RO l g (f+1):=fun {S M} w sl si sn cn x hst hR hl hi hf=>by
 rw [VT];have cM:=fun {M:List Chunk} (w:World) (hst:St S M w)=>Bj w hst sl si sn x hl hm [123]
 have hs1:=fun {M:List Chunk} (w:World) (hst:St S (.sl (Ar sn) 139 4 x.nds.length cn::M) w)=>CB (l:=l) (s:=[123]) hst
 have hr1:=CC (l:=l) (s:=[123]) hR;have m1:=AO (l:=l) [123] hi
 have hF:2≤f∧((Al l x [123]).k < 0∨8 * BN l (Al l x [123])+4≤f):=by
  by_cases h:(Al l x [123]).k < 0
  ·exact ⟨by omega,.inl h⟩
  ·have:=OU (A1 (l:=l) x [123]) m1.hi (by omega);exact ⟨by omega,.inr (by omega)⟩
 generalize Al l x [123]=y at *;obtain ⟨R,hRR⟩:∃ R,listP l g f y []=R:=⟨_,rfl⟩
 rw [hRR];have HR:=Lib.hid hRR;clear hRR hi hR hf;unfold Ad;go_enter Tryz.func102,Tryz.ntmps102;repeat' ((apply Z1 ());first|(apply gK ();go_step)|(apply sB ();clear hst;intro bx w hst)|(apply sA ();clear hst;intro bk w hst)|fail)
 obtain ⟨b3,rfl⟩:∃ b,b=bk:=⟨_,rfl⟩
 repeat' ((apply Z2 ());first|(apply gK ();go_step)|(apply kc ();refine sc (cM _ hst) ?_;clear hst;rintro v w ⟨rfl,hst⟩)|apply sX ()|(apply sS ();clear hst;intro w hst)|(apply sA ();clear hst;intro bk w hst)|fail)
 obtain ⟨b4,rfl⟩:∃ b,b=bk:=⟨_,rfl⟩
 repeat' ((apply Z3 ());first|(apply gK ();go_step)|(apply sS ();clear hst;intro w hst)|(apply sA ();clear hst;intro bk w hst)|fail)
 replace hst:=(hst.move (k:=4) rfl).nil 3 1;(try replace hst:=nH hst)
 go_loopw [6] (fun _ wr=>∃ (h:Nat) (y:PS) (of:List Int) (T:Ac) (sn' so:Sv) (cn' co:List Value),S.Le T∧Hid (listP l g h y of=R)∧AH l 1 y∧(2≤h∧h≤f∧(y.k < 0∨8 * BN l y+4≤h))∧(of.length≤l.length+1∧(0≤y.k→(of.length:Int)≤y.k))∧RL T cn' y.nds∧RL T co of∧St T (.sl (Ar so) 3 1 of.length co::.sl (Ar sn') 139 4 y.nds.length cn'::.box bk [.int .i64 17,.int .i64 0,.string ⟨#[]⟩,.slice so.1 so.2.1 so.2.2] 139::.box b4 (Oi sl y.k si sn' y.pts) 132::.box b3 (Oi (none,0,0) 0 (none,0,0) (none,0,0) 0) 132::.box bx (Oi sl x.k si sn x.pts) 132::M) wr) (fun _ wr=>Iv l.length (Rj wr (.pointer (some ⟨b4,0,none⟩))))
 case atStart=>exact ⟨f,y,[],S,sn,(none,0,0),cn,[],.refl _,HR,m1,⟨hF.1,Nat.le_refl _,hF.2⟩,⟨Nat.zero_le _,fun h=>h⟩,hr1,RL.nil,(hs1 _ hst.swap).swap⟩
 case round =>
  clear hst hr1 m1 HR hF cM hs1;obtain ⟨h,y,of,T,sn',so,cn',co,hT,HR,hi,hF,hol,hR,hO,hst⟩:=hrel;have hk0:=Lib.hid (GR (o:=0) (i:=3) hst rfl);have cI:=fun {M:List Chunk} (w:World) (hst:St T M w)=>Cc w hst sl si sn' y (hl.mono hT) hm [125]
  obtain ⟨h,rfl⟩:∃ h',h=h'+1:=⟨h - 1,by omega⟩
  by_cases hk:y.k < 0
  ·have hz:(y.k < 0∨AP l y [125]=true):=.inl hk;have HQ:=Lib.hid (HR.out.symm.trans (N6 hz));clear HR;repeat' ((apply Z7 ());first|apply sG ()|(with_reducible refine Sl.k_guard ?_;refine Sl.guard_cases rfl ?_ ?_<;>intro hg<;>first|exact gX|(simp only [hg,Bool.not_true,Bool.not_false])<;>(try replace hg:=gN hg)<;>(try refine nX ?_))|(apply gK ();go_step)|apply sX ()|fail)
   apply b2 ()
  ·cases hz:AP l y [125] with
   | true =>
    rw [hz] at cI;have HQ:=Lib.hid (HR.out.symm.trans (N6 (.inr hz)));clear HR;repeat' ((apply Z7 ());first|apply sG ()|(with_reducible refine Sl.k_guard ?_;refine Sl.guard_cases rfl ?_ ?_<;>intro hg<;>first|exact gX|(simp only [hg,Bool.not_true,Bool.not_false])<;>(try replace hg:=gN hg)<;>(try refine nX ?_))|(apply gK ();go_step)|(apply kc ();refine sc (cI _ hst) ?_;clear hst;rintro v w ⟨rfl,hst⟩)|apply sX ()|fail)
    apply b2 ()
   | false =>
    rw [hz] at cI;have hp:0≤y.k:=by omega
    have HL:=Lib.hid (SD (g:=g) (f:=h) (of:=of) hp hz);have cS:=fun {M:List Chunk} (w:World) (hst:St T (.sl (Ar sn') 139 4 y.nds.length cn'::M) w)=>hS h (by omega) w sl si sn' cn' y hst hR (hl.mono hT) (hi.le (by omega)) (by omega)
    have m3:=(Et (l:=l) g h).1 _ _ hi;have m4:=(GH (l:=l) g h).1 y hi.lo
    have m5:∀ z:PS,BI y z→z.k≤l.length→(z.k < 0∨8 * BN l z+4≤h):=fun z a1 a2=>by
     by_cases hz:z.k < 0
     ·exact .inl hz
     ·have:=OU a1 a2 (by omega);exact .inr (by omega)
    have m6:=m5 _ m4 m3.hi;have hh2:2≤h:=by omega
    generalize BZ l g h y=q at *;have N4:=Lib.hid m4;have M3:=Lib.hid m3;have hlo:=hol.1;have hlo3:=hi.hi;have hlo2:=hol.2 hp;have hq1:=m3.hi
    have HO:Hid (∀ n:Nat,n=of.length+1→n≤l.length+1∧(0≤q.2.k→(n:Int)≤q.2.k)):=Lib.hid (by
     intro n hn;have:=hi.hi;unfold BI at m4;exact ⟨by omega,fun h=>by omega⟩)
    clear m3 m4 m5 hq1 hz hi;have hone:=AW hst;repeat' ((apply Z5 ());first|apply sG ()|(apply gK ();go_step)|(apply kc ();refine sc (cI _ hst) ?_;clear hst;rintro v w ⟨rfl,hst⟩)|(apply kc ();refine sc (cS _ (hst.move (k:=1) rfl)) ?_;clear hst;rintro v w ⟨S2,sn2,cn2,hS2,rfl,hb2,hR2,hst⟩<;>(try replace hst:=nH hst))|apply sX ()|(apply sS ();clear hst;intro w hst)|(apply sA ();clear hst;intro bk w hst)|fail)
    repeat' (first|(apply gK ();go_step)|apply sX ()|fail)
    refine AA (vs:=[(.int .i64 q.1)]) hst Aa Aa rfl rfl (by simp [Value.cells]) rfl (by omega) (by omega) ?_;clear hst;intro u w hst;refine nX ?_;refine AG (j:=0) hst Ab Ab SlIn.h rfl Aa Aa Aa (by simp [Value.cells,Value.oneCell']) (by omega) (by omega) (by decide) ?_;clear hst;intro v' w hst;refine nX ?_;(try replace hst:=nH hst);replace hst:=hst.drop;obtain ⟨ay,cy,rfl⟩:=sl_formk (k:=2) hst rfl;(try refine nX ?_);repeat' (first|(apply gK ();go_step)|apply sX ()|(apply sS ();clear hst;intro w hst)|fail)
    go_roundw
    case rel=>exact ⟨h,q.2,of++[q.1],S2,sn2,(ay,of.length+1,cy),cn2,co++[.int .i64 q.1],hT.trans hS2,Lib.hid (HL.out.symm.trans HR.out),M3.out,⟨hh2,by omega,m6⟩,HO.out _ (by simp),hR2,(hO.mono hS2).append (Cg (Aj hb2)),by simpa using St.swap hst.sub⟩
    case measure =>
     have h1:=GR (o:=0) (i:=4) hst rfl;rw [hk0.out,h1];have h2:=N4.out;unfold BI at h2;have h3:=M3.out.hi;exact LG hp hlo3 (by omega) h3
theorem Zg (hm:l.length≤1500) {g:Nat} (hg:8 * l.length+7≤g):∀ f,Y0 l g f∧RO l g f:=by
 have H:∀ n f,f≤n→Y0 l g f∧RO l g f:=by
  intro n
  induction n with
  | zero =>
   intro f hf;obtain rfl:f=0:=by omega
   exact ⟨fun w sl si sn cn x _ _ _ _ h=>absurd h (by omega),fun w sl si sn cn x _ _ _ _ h=>absurd h (by omega)⟩
  | succ n ih =>
   intro f hf;by_cases h:f≤n
   ·exact ih f h
   ·obtain rfl:f=n+1:=by omega
    exact ⟨TW hm hg (ih n (Nat.le_refl _)).2,Tj hm fun h hh=>(ih h hh).1⟩
 exact fun f=>H f f (Nat.le_refl _)
end
theorem Sh {S:Ac} {kd n m:Int} {s:By} (h1:s.b.length≤maxLen) (h2:Au kd) (h3:Au n) (h4:Au m):Rep.R S [.string ⟨s.b.toArray⟩,.int .i64 kd,.int .i64 n,.int .i64 m] ((s,kd,n,m,()):Ip) :=
 Ay (cs:=[_]) ⟨rfl,h1⟩ (Ay (cs:=[_]) ⟨rfl,h2⟩ (Ay (cs:=[_]) ⟨rfl,h3⟩ (Ay (cs:=[_]) ⟨rfl,h4⟩ Cf)))
section
variable {l:List Tk}
theorem I5 (x:PS):(CT l x).2.nds=x.nds∧(CT l x).2.pts=x.pts∧(CT l x).2.ins=x.ins:=by
 unfold CT;simp only;split
 ·simp only [(BS (l:=l) _).1,(BS (l:=l) _).2.1,(BS (l:=l) _).2.2,Bq,GN,Bg,(CA (l:=l) _).1,(CA (l:=l) _).2.1,(CA (l:=l) _).2.2,and_self]
 ·split
  ·simp only [(BS (l:=l) _).1,(BS (l:=l) _).2.1,(BS (l:=l) _).2.2,Bq,GN,Bg,(CA (l:=l) _).1,(CA (l:=l) _).2.1,(CA (l:=l) _).2.2,and_self]
  ·split
   ·simp only [Bq,GN,Bg,(CA (l:=l) _).1,(CA (l:=l) _).2.1,(CA (l:=l) _).2.2,and_self]
   ·simp only [(BS (l:=l) _).1,(BS (l:=l) _).2.1,(BS (l:=l) _).2.2,Bq,GN,Bg,(CA (l:=l) _).1,(CA (l:=l) _).2.1,(CA (l:=l) _).2.2,and_self]
theorem XX {s:Nat} {x:PS} (h:AH l s x):AH l s (CT l x).2:=by
 have h0:=Is (AO (l:=l) [105,110,112,117,116] h);unfold CT;simp only;split
 ·exact (CL (AO _ h0)).le (Nat.le_add_right s 4)
 ·split
  ·exact (CL (CL (AO _ h0))).le (Nat.le_add_right s 5)
  ·split
   ·exact (AO _ h0).le (Nat.le_add_right s 3)
   ·exact (CL (AO _ h0)).le (Nat.le_add_right s 4)
theorem XY (x:PS):BI x (CT l x).2:=by
 have h0:BI x (AI l (Al l x [105,110,112,117,116])).2:=(A1 _ _).tr (Kg _);unfold CT;simp only;split
 ·exact (h0.tr (A1 _ _)).tr (Dz _)
 ·split
  ·exact ((h0.tr (A1 _ _)).tr (Dz _)).tr (Dz _)
  ·split
   ·exact h0.tr (A1 _ _)
   ·exact (h0.tr (A1 _ _)).tr (Dz _)
theorem My {s:Nat} {x:PS} (h:AH l s x):AH l s (CQ l x):=by
 have h0:AH l s { (CT l x).2 with ins:=(CT l x).2.ins++[(CT l x).1] }:=XX h;exact (AO _ h0).le (Nat.le_add_right s 1)
theorem SK (x:PS):BI x (CQ l x):=by
 have h0:BI x { (CT l x).2 with ins:=(CT l x).2.ins++[(CT l x).1] }:=XY x;exact h0.tr (A1 _ _)
theorem Mx (x:PS):(CQ l x).nds=x.nds:=(Bq _ _).trans (I5 x).1
theorem Mz (x:PS):(CQ l x).ins=x.ins++[(CT l x).1]:=(Bg _ _).trans (by show (CT l x).2.ins++_=_;rw [(I5 x).2.2])
abbrev MR (S:Ac) (M:List Chunk) (sl sn:Sv) (r:PS) (v:Value) (w:World):Prop :=
 ∃ si ci,v=Cv sl r.k si sn r.pts∧RL S ci r.ins∧St S (.sl (Ar si) 97 4 r.ins.length ci::M) w
theorem Qp (hm:l.length≤1500) {S M} (w:World) (sl si sn:Sv) (ci:List Value) (x:PS) (hst:St S (.sl (Ar si) 97 4 x.ins.length ci::M) w) (hR:RL S ci x.ins) (hb:x.ins.length≤100000) (hl:RSl S (Ar sl) l) (hz:AP l (AI l (Al l x [105,110,112,117,116])).2 [115,116,114,97,112]=true) :
  Ad Tryz.prog 60 [Cv sl x.k si sn x.pts] w (MR S M sl sn (CQ l x)):=by
 have e0:CT l x=_:=if_pos hz;obtain ⟨k1,k2,k3⟩:=I5 (l:=l) x;unfold CQ;have c1:=fun {M:List Chunk} (w:World) (hst:St S M w)=>Cc w hst sl si sn (AI l (Al l x [105,110,112,117,116])).2 hl hm [115,116,114,97,112]
 rw [hz] at c1;have cM:=fun {M:List Chunk} (w:World) (hst:St S M w)=>Bj w hst sl si sn x hl hm [105,110,112,117,116]
 have cA:=fun {M:List Chunk} (w:World) (hst:St S M w)=>Hq w hst sl si sn (Al l x [105,110,112,117,116]) hl hm
 have hnl:=FM hl (Al l x [105,110,112,117,116]);have cB:=fun {M:List Chunk} (w:World) (hst:St S M w)=>Bj w hst sl si sn (AI l (Al l x [105,110,112,117,116])).2 hl hm [115,116,114,97,112]
 have cC:=fun {M:List Chunk} (w:World) (hst:St S M w)=>Fc w hst sl si sn (Al l (AI l (Al l x [105,110,112,117,116])).2 [115,116,114,97,112]) hl hm
 have hn1:=D8 hl (Al l (AI l (Al l x [105,110,112,117,116])).2 [115,116,114,97,112]);generalize Al l x [105,110,112,117,116]=y0 at *;generalize AI l y0=y1 at *;generalize Al l y1.2 [115,116,114,97,112]=y2 at *;generalize AJ l y2=y3 at *;rw [show CT l x=((y1.1,1,y3.1,0,()),y3.2) from e0] at k3 ⊢;simp only at k3 ⊢;have hI:(({ y3.2 with ins:=y3.2.ins++[(y1.1,1,y3.1,0,())] }:PS)).ins=x.ins++[(y1.1,1,y3.1,0,())]:=by show y3.2.ins++_=_;rw [k3]
 have hK:(({ y3.2 with ins:=y3.2.ins++[(y1.1,1,y3.1,0,())] }:PS)).k=y3.2.k:=rfl;have hP:(({ y3.2 with ins:=y3.2.ins++[(y1.1,1,y3.1,0,())] }:PS)).pts=y3.2.pts:=rfl;generalize ({ y3.2 with ins:=y3.2.ins++[(y1.1,1,y3.1,0,())] }:PS)=z at *;have hZi:=Lib.hid ((Bg (l:=l) z [59]).trans hI);have cE:=fun {M:List Chunk} (w:World) (hst:St S M w) (si:Sv)=>Bj w hst sl si sn z hl hm [59]
 rw [hK,hP] at cE;clear e0 k1 k2 k3 hI hK hP;clear hz;unfold Ad;go_enter Tryz.func60,Tryz.ntmps60;repeat' ((apply P4 ());first|(apply gK ();go_step)|(apply kc ();refine sc (cM _ hst) ?_;clear hst;rintro v w ⟨rfl,hst⟩)|(apply kc ();refine sc (cA _ hst) ?_;clear hst;rintro v w ⟨rfl,hst⟩)|(apply kc ();refine sc (c1 _ hst) ?_;clear hst;rintro v w ⟨rfl,hst⟩)|(apply kc ();refine sc (cB _ hst) ?_;clear hst;rintro v w ⟨rfl,hst⟩)|(apply kc ();refine sc (cC _ hst) ?_;clear hst;rintro v w ⟨rfl,hst⟩)|apply sX ()|(apply sS ();clear hst;intro w hst)|(apply sB ();clear hst;intro bx w hst)|(apply sA ();clear hst;intro bk w hst)|fail)
 repeat' (first|(apply gK ();go_step)|apply sX ()|fail)
 refine AA (vs:=[(.agg #[.string ⟨y1.1.b.toArray⟩,.int .i64 1,.int .i64 y3.1,.int .i64 0])]) hst Aa Aa rfl rfl (by simp [Value.cells]) rfl (by omega) (by omega) ?_;clear hst;intro u w hst;refine nX ?_;refine AG (j:=0) hst Ab Ab SlIn.h rfl Aa Aa Aa (by simp [Value.cells,Value.oneCell']) (by omega) (by omega) (by decide) ?_;clear hst;intro v' w hst;refine nX ?_;(try replace hst:=nH hst);replace hst:=hst.drop;obtain ⟨ay,cy,rfl⟩:=sl_formk (k:=4) hst rfl;(try refine nX ?_);have cF:=fun {M:List Chunk} (w:World) (hst:St S M w)=>cE w hst (ay,x.ins.length+1,cy)
 clear cE;repeat' (first|(apply gK ();go_step)|(apply kc ();refine sc (cF _ hst) ?_;clear hst;rintro v w ⟨rfl,hst⟩)|apply sX ()|(apply sS ();clear hst;intro w hst)|fail)
 refine Ca rfl hst rfl 2 rfl inferInstance rfl rfl ?_;refine ⟨_,rfl,(ay,x.ins.length+1,cy),ci++[.string ⟨y1.1.b.toArray⟩,.int .i64 1,.int .i64 y3.1,.int .i64 0],rfl,?_,?_⟩
 ·rw [hZi.out];exact hR.append (RL.one_mk (Sh hnl (Aj (by decide)) hn1 (Aj (by decide))))
 ·rw [hZi.out];have:=hst.drop.drop.drop.drop
  simpa using this
theorem SJ (hm:l.length≤1500) {S M} (w:World) (sl si sn:Sv) (ci:List Value) (x:PS) (hst:St S (.sl (Ar si) 97 4 x.ins.length ci::M) w) (hR:RL S ci x.ins) (hb:x.ins.length≤100000) (hl:RSl S (Ar sl) l) (hz:AP l (AI l (Al l x [105,110,112,117,116])).2 [115,116,114,97,112]=false) (hz2:AP l (AI l (Al l x [105,110,112,117,116])).2 [102,117,115,101]=true) :
  Ad Tryz.prog 60 [Cv sl x.k si sn x.pts] w (MR S M sl sn (CQ l x)):=by
 have e0:CT l x=_:=(if_neg (by rw [hz];decide)).trans (if_pos hz2);simp only at e0;obtain ⟨k1,k2,k3⟩:=I5 (l:=l) x;unfold CQ;have c1:=fun {M:List Chunk} (w:World) (hst:St S M w)=>Cc w hst sl si sn (AI l (Al l x [105,110,112,117,116])).2 hl hm [115,116,114,97,112]
 rw [hz] at c1;have c2:=fun {M:List Chunk} (w:World) (hst:St S M w)=>Cc w hst sl si sn (AI l (Al l x [105,110,112,117,116])).2 hl hm [102,117,115,101]
 rw [hz2] at c2;have cM:=fun {M:List Chunk} (w:World) (hst:St S M w)=>Bj w hst sl si sn x hl hm [105,110,112,117,116]
 have cA:=fun {M:List Chunk} (w:World) (hst:St S M w)=>Hq w hst sl si sn (Al l x [105,110,112,117,116]) hl hm
 have hnl:=FM hl (Al l x [105,110,112,117,116]);have cB:=fun {M:List Chunk} (w:World) (hst:St S M w)=>Bj w hst sl si sn (AI l (Al l x [105,110,112,117,116])).2 hl hm [102,117,115,101]
 have cC:=fun {M:List Chunk} (w:World) (hst:St S M w)=>Fc w hst sl si sn (Al l (AI l (Al l x [105,110,112,117,116])).2 [102,117,115,101]) hl hm
 have hn1:=D8 hl (Al l (AI l (Al l x [105,110,112,117,116])).2 [102,117,115,101]);have cD:=fun {M:List Chunk} (w:World) (hst:St S M w)=>Fc w hst sl si sn (AJ l (Al l (AI l (Al l x [105,110,112,117,116])).2 [102,117,115,101])).2 hl hm
 have hn2:=D8 hl (AJ l (Al l (AI l (Al l x [105,110,112,117,116])).2 [102,117,115,101])).2;generalize Al l x [105,110,112,117,116]=y0 at *;generalize AI l y0=y1 at *;generalize Al l y1.2 [102,117,115,101]=y2 at *;generalize AJ l y2=y3 at *;generalize AJ l y3.2=y4 at *;rw [show CT l x=((y1.1,2,y3.1,y4.1,()),y4.2) from e0] at k3 ⊢;simp only at k3 ⊢;have hI:(({ y4.2 with ins:=y4.2.ins++[(y1.1,2,y3.1,y4.1,())] }:PS)).ins=x.ins++[(y1.1,2,y3.1,y4.1,())]:=by show y4.2.ins++_=_;rw [k3]
 have hK:(({ y4.2 with ins:=y4.2.ins++[(y1.1,2,y3.1,y4.1,())] }:PS)).k=y4.2.k:=rfl;have hP:(({ y4.2 with ins:=y4.2.ins++[(y1.1,2,y3.1,y4.1,())] }:PS)).pts=y4.2.pts:=rfl;generalize ({ y4.2 with ins:=y4.2.ins++[(y1.1,2,y3.1,y4.1,())] }:PS)=z at *;have hZi:=Lib.hid ((Bg (l:=l) z [59]).trans hI);have cE:=fun {M:List Chunk} (w:World) (hst:St S M w) (si:Sv)=>Bj w hst sl si sn z hl hm [59]
 rw [hK,hP] at cE;clear e0 k1 k2 k3 hI hK hP;clear hz hz2;unfold Ad;go_enter Tryz.func60,Tryz.ntmps60;repeat' ((apply P4 ());first|(apply gK ();go_step)|(apply kc ();refine sc (cM _ hst) ?_;clear hst;rintro v w ⟨rfl,hst⟩)|(apply kc ();refine sc (cA _ hst) ?_;clear hst;rintro v w ⟨rfl,hst⟩)|(apply kc ();refine sc (c1 _ hst) ?_;clear hst;rintro v w ⟨rfl,hst⟩)|(apply kc ();refine sc (c2 _ hst) ?_;clear hst;rintro v w ⟨rfl,hst⟩)|(apply kc ();refine sc (cB _ hst) ?_;clear hst;rintro v w ⟨rfl,hst⟩)|(apply kc ();refine sc (cC _ hst) ?_;clear hst;rintro v w ⟨rfl,hst⟩)|(apply kc ();refine sc (cD _ hst) ?_;clear hst;rintro v w ⟨rfl,hst⟩)|apply sX ()|(apply sS ();clear hst;intro w hst)|(apply sB ();clear hst;intro bx w hst)|(apply sA ();clear hst;intro bk w hst)|fail)
 repeat' (first|(apply gK ();go_step)|apply sX ()|fail)
 refine AA (vs:=[(.agg #[.string ⟨y1.1.b.toArray⟩,.int .i64 2,.int .i64 y3.1,.int .i64 y4.1])]) hst Aa Aa rfl rfl (by simp [Value.cells]) rfl (by omega) (by omega) ?_;clear hst;intro u w hst;refine nX ?_;refine AG (j:=0) hst Ab Ab SlIn.h rfl Aa Aa Aa (by simp [Value.cells,Value.oneCell']) (by omega) (by omega) (by decide) ?_;clear hst;intro v' w hst;refine nX ?_;(try replace hst:=nH hst);replace hst:=hst.drop;obtain ⟨ay,cy,rfl⟩:=sl_formk (k:=4) hst rfl;(try refine nX ?_);have cF:=fun {M:List Chunk} (w:World) (hst:St S M w)=>cE w hst (ay,x.ins.length+1,cy)
 clear cE;repeat' (first|(apply gK ();go_step)|(apply kc ();refine sc (cF _ hst) ?_;clear hst;rintro v w ⟨rfl,hst⟩)|apply sX ()|(apply sS ();clear hst;intro w hst)|fail)
 refine Ca rfl hst rfl 2 rfl inferInstance rfl rfl ?_;refine ⟨_,rfl,(ay,x.ins.length+1,cy),ci++[.string ⟨y1.1.b.toArray⟩,.int .i64 2,.int .i64 y3.1,.int .i64 y4.1],rfl,?_,?_⟩
 ·rw [hZi.out];exact hR.append (RL.one_mk (Sh hnl (Aj (by decide)) hn1 hn2))
 ·rw [hZi.out];have:=hst.drop.drop.drop.drop
  simpa using this
theorem SH (hm:l.length≤1500) {S M} (w:World) (sl si sn:Sv) (ci:List Value) (x:PS) (hst:St S (.sl (Ar si) 97 4 x.ins.length ci::M) w) (hR:RL S ci x.ins) (hb:x.ins.length≤100000) (hl:RSl S (Ar sl) l) (hz:AP l (AI l (Al l x [105,110,112,117,116])).2 [115,116,114,97,112]=false) (hz2:AP l (AI l (Al l x [105,110,112,117,116])).2 [102,117,115,101]=false) (hz3:AP l (AI l (Al l x [105,110,112,117,116])).2 [115,108,111,116]=true) :
  Ad Tryz.prog 60 [Cv sl x.k si sn x.pts] w (MR S M sl sn (CQ l x)):=by
 have e0:CT l x=_:=(if_neg (by rw [hz];decide)).trans ((if_neg (by rw [hz2];decide)).trans (if_pos hz3));obtain ⟨k1,k2,k3⟩:=I5 (l:=l) x;unfold CQ;have c1:=fun {M:List Chunk} (w:World) (hst:St S M w)=>Cc w hst sl si sn (AI l (Al l x [105,110,112,117,116])).2 hl hm [115,116,114,97,112]
 rw [hz] at c1;have c2:=fun {M:List Chunk} (w:World) (hst:St S M w)=>Cc w hst sl si sn (AI l (Al l x [105,110,112,117,116])).2 hl hm [102,117,115,101]
 rw [hz2] at c2;have c3:=fun {M:List Chunk} (w:World) (hst:St S M w)=>Cc w hst sl si sn (AI l (Al l x [105,110,112,117,116])).2 hl hm [115,108,111,116]
 rw [hz3] at c3;have cM:=fun {M:List Chunk} (w:World) (hst:St S M w)=>Bj w hst sl si sn x hl hm [105,110,112,117,116]
 have cA:=fun {M:List Chunk} (w:World) (hst:St S M w)=>Hq w hst sl si sn (Al l x [105,110,112,117,116]) hl hm
 have hnl:=FM hl (Al l x [105,110,112,117,116]);have cB:=fun {M:List Chunk} (w:World) (hst:St S M w)=>Bj w hst sl si sn (AI l (Al l x [105,110,112,117,116])).2 hl hm [115,108,111,116]
 generalize Al l x [105,110,112,117,116]=y0 at *;generalize AI l y0=y1 at *;generalize Al l y1.2 [115,108,111,116]=y2 at *;rw [show CT l x=((y1.1,3,0,0,()),y2) from e0] at k3 ⊢;simp only at k3 ⊢;have hI:(({ y2 with ins:=y2.ins++[(y1.1,3,0,0,())] }:PS)).ins=x.ins++[(y1.1,3,0,0,())]:=by show y2.ins++_=_;rw [k3]
 have hK:(({ y2 with ins:=y2.ins++[(y1.1,3,0,0,())] }:PS)).k=y2.k:=rfl;have hP:(({ y2 with ins:=y2.ins++[(y1.1,3,0,0,())] }:PS)).pts=y2.pts:=rfl;generalize ({ y2 with ins:=y2.ins++[(y1.1,3,0,0,())] }:PS)=z at *;have hZi:=Lib.hid ((Bg (l:=l) z [59]).trans hI);have cE:=fun {M:List Chunk} (w:World) (hst:St S M w) (si:Sv)=>Bj w hst sl si sn z hl hm [59]
 rw [hK,hP] at cE;clear e0 k1 k2 k3 hI hK hP;clear hz hz2 hz3;unfold Ad;go_enter Tryz.func60,Tryz.ntmps60;repeat' ((apply P4 ());first|(apply gK ();go_step)|(apply kc ();refine sc (cM _ hst) ?_;clear hst;rintro v w ⟨rfl,hst⟩)|(apply kc ();refine sc (cA _ hst) ?_;clear hst;rintro v w ⟨rfl,hst⟩)|(apply kc ();refine sc (c1 _ hst) ?_;clear hst;rintro v w ⟨rfl,hst⟩)|(apply kc ();refine sc (c2 _ hst) ?_;clear hst;rintro v w ⟨rfl,hst⟩)|(apply kc ();refine sc (c3 _ hst) ?_;clear hst;rintro v w ⟨rfl,hst⟩)|(apply kc ();refine sc (cB _ hst) ?_;clear hst;rintro v w ⟨rfl,hst⟩)|apply sX ()|(apply sS ();clear hst;intro w hst)|(apply sB ();clear hst;intro bx w hst)|(apply sA ();clear hst;intro bk w hst)|fail)
 repeat' (first|(apply gK ();go_step)|apply sX ()|fail)
 refine AA (vs:=[(.agg #[.string ⟨y1.1.b.toArray⟩,.int .i64 3,.int .i64 0,.int .i64 0])]) hst Aa Aa rfl rfl (by simp [Value.cells]) rfl (by omega) (by omega) ?_;clear hst;intro u w hst;refine nX ?_;refine AG (j:=0) hst Ab Ab SlIn.h rfl Aa Aa Aa (by simp [Value.cells,Value.oneCell']) (by omega) (by omega) (by decide) ?_;clear hst;intro v' w hst;refine nX ?_;(try replace hst:=nH hst);replace hst:=hst.drop;obtain ⟨ay,cy,rfl⟩:=sl_formk (k:=4) hst rfl;(try refine nX ?_);have cF:=fun {M:List Chunk} (w:World) (hst:St S M w)=>cE w hst (ay,x.ins.length+1,cy)
 clear cE;repeat' (first|(apply gK ();go_step)|(apply kc ();refine sc (cF _ hst) ?_;clear hst;rintro v w ⟨rfl,hst⟩)|apply sX ()|(apply sS ();clear hst;intro w hst)|fail)
 refine Ca rfl hst rfl 2 rfl inferInstance rfl rfl ?_;refine ⟨_,rfl,(ay,x.ins.length+1,cy),ci++[.string ⟨y1.1.b.toArray⟩,.int .i64 3,.int .i64 0,.int .i64 0],rfl,?_,?_⟩
 ·rw [hZi.out];exact hR.append (RL.one_mk (Sh hnl (Aj (by decide)) (Aj (by decide)) (Aj (by decide))))
 ·rw [hZi.out];have:=hst.drop.drop.drop.drop
  simpa using this
theorem SI (hm:l.length≤1500) {S M} (w:World) (sl si sn:Sv) (ci:List Value) (x:PS) (hst:St S (.sl (Ar si) 97 4 x.ins.length ci::M) w) (hR:RL S ci x.ins) (hb:x.ins.length≤100000) (hl:RSl S (Ar sl) l) (hz:AP l (AI l (Al l x [105,110,112,117,116])).2 [115,116,114,97,112]=false) (hz2:AP l (AI l (Al l x [105,110,112,117,116])).2 [102,117,115,101]=false) (hz3:AP l (AI l (Al l x [105,110,112,117,116])).2 [115,108,111,116]=false) :
  Ad Tryz.prog 60 [Cv sl x.k si sn x.pts] w (MR S M sl sn (CQ l x)):=by
 have e0:CT l x=_:=(if_neg (by rw [hz];decide)).trans ((if_neg (by rw [hz2];decide)).trans (if_neg (by rw [hz3];decide)));obtain ⟨k1,k2,k3⟩:=I5 (l:=l) x;unfold CQ;have c1:=fun {M:List Chunk} (w:World) (hst:St S M w)=>Cc w hst sl si sn (AI l (Al l x [105,110,112,117,116])).2 hl hm [115,116,114,97,112]
 rw [hz] at c1;have c2:=fun {M:List Chunk} (w:World) (hst:St S M w)=>Cc w hst sl si sn (AI l (Al l x [105,110,112,117,116])).2 hl hm [102,117,115,101]
 rw [hz2] at c2;have c3:=fun {M:List Chunk} (w:World) (hst:St S M w)=>Cc w hst sl si sn (AI l (Al l x [105,110,112,117,116])).2 hl hm [115,108,111,116]
 rw [hz3] at c3;have cM:=fun {M:List Chunk} (w:World) (hst:St S M w)=>Bj w hst sl si sn x hl hm [105,110,112,117,116]
 have cA:=fun {M:List Chunk} (w:World) (hst:St S M w)=>Hq w hst sl si sn (Al l x [105,110,112,117,116]) hl hm
 have hnl:=FM hl (Al l x [105,110,112,117,116]);have cB:=fun {M:List Chunk} (w:World) (hst:St S M w)=>Bj w hst sl si sn (AI l (Al l x [105,110,112,117,116])).2 hl hm [109,97,105,108]
 have cC:=fun {M:List Chunk} (w:World) (hst:St S M w)=>Fc w hst sl si sn (Al l (AI l (Al l x [105,110,112,117,116])).2 [109,97,105,108]) hl hm
 have hn1:=D8 hl (Al l (AI l (Al l x [105,110,112,117,116])).2 [109,97,105,108]);generalize Al l x [105,110,112,117,116]=y0 at *;generalize AI l y0=y1 at *;generalize Al l y1.2 [109,97,105,108]=y2 at *;generalize AJ l y2=y3 at *;rw [show CT l x=((y1.1,4,0,y3.1,()),y3.2) from e0] at k3 ⊢;simp only at k3 ⊢;have hI:(({ y3.2 with ins:=y3.2.ins++[(y1.1,4,0,y3.1,())] }:PS)).ins=x.ins++[(y1.1,4,0,y3.1,())]:=by show y3.2.ins++_=_;rw [k3]
 have hK:(({ y3.2 with ins:=y3.2.ins++[(y1.1,4,0,y3.1,())] }:PS)).k=y3.2.k:=rfl;have hP:(({ y3.2 with ins:=y3.2.ins++[(y1.1,4,0,y3.1,())] }:PS)).pts=y3.2.pts:=rfl;generalize ({ y3.2 with ins:=y3.2.ins++[(y1.1,4,0,y3.1,())] }:PS)=z at *;have hZi:=Lib.hid ((Bg (l:=l) z [59]).trans hI);have cE:=fun {M:List Chunk} (w:World) (hst:St S M w) (si:Sv)=>Bj w hst sl si sn z hl hm [59]
 rw [hK,hP] at cE;clear e0 k1 k2 k3 hI hK hP;clear hz hz2 hz3;unfold Ad;go_enter Tryz.func60,Tryz.ntmps60;repeat' ((apply P4 ());first|(apply gK ();go_step)|(apply kc ();refine sc (cM _ hst) ?_;clear hst;rintro v w ⟨rfl,hst⟩)|(apply kc ();refine sc (cA _ hst) ?_;clear hst;rintro v w ⟨rfl,hst⟩)|(apply kc ();refine sc (c1 _ hst) ?_;clear hst;rintro v w ⟨rfl,hst⟩)|(apply kc ();refine sc (c2 _ hst) ?_;clear hst;rintro v w ⟨rfl,hst⟩)|(apply kc ();refine sc (c3 _ hst) ?_;clear hst;rintro v w ⟨rfl,hst⟩)|(apply kc ();refine sc (cB _ hst) ?_;clear hst;rintro v w ⟨rfl,hst⟩)|(apply kc ();refine sc (cC _ hst) ?_;clear hst;rintro v w ⟨rfl,hst⟩)|apply sX ()|(apply sS ();clear hst;intro w hst)|(apply sB ();clear hst;intro bx w hst)|(apply sA ();clear hst;intro bk w hst)|fail)
 repeat' (first|(apply gK ();go_step)|apply sX ()|fail)
 refine AA (vs:=[(.agg #[.string ⟨y1.1.b.toArray⟩,.int .i64 4,.int .i64 0,.int .i64 y3.1])]) hst Aa Aa rfl rfl (by simp [Value.cells]) rfl (by omega) (by omega) ?_;clear hst;intro u w hst;refine nX ?_;refine AG (j:=0) hst Ab Ab SlIn.h rfl Aa Aa Aa (by simp [Value.cells,Value.oneCell']) (by omega) (by omega) (by decide) ?_;clear hst;intro v' w hst;refine nX ?_;(try replace hst:=nH hst);replace hst:=hst.drop;obtain ⟨ay,cy,rfl⟩:=sl_formk (k:=4) hst rfl;(try refine nX ?_);have cF:=fun {M:List Chunk} (w:World) (hst:St S M w)=>cE w hst (ay,x.ins.length+1,cy)
 clear cE;repeat' (first|(apply gK ();go_step)|(apply kc ();refine sc (cF _ hst) ?_;clear hst;rintro v w ⟨rfl,hst⟩)|apply sX ()|(apply sS ();clear hst;intro w hst)|fail)
 refine Ca rfl hst rfl 2 rfl inferInstance rfl rfl ?_;refine ⟨_,rfl,(ay,x.ins.length+1,cy),ci++[.string ⟨y1.1.b.toArray⟩,.int .i64 4,.int .i64 0,.int .i64 y3.1],rfl,?_,?_⟩
 ·rw [hZi.out];exact hR.append (RL.one_mk (Sh hnl (Aj (by decide)) (Aj (by decide)) hn1))
 ·rw [hZi.out];have:=hst.drop.drop.drop.drop
  simpa using this
theorem am (hm:l.length≤1500) {S M} (w:World) (sl si sn:Sv) (ci:List Value) (x:PS) (hst:St S (.sl (Ar si) 97 4 x.ins.length ci::M) w) (hR:RL S ci x.ins) (hb:x.ins.length≤100000) (hl:RSl S (Ar sl) l) :
  Ad Tryz.prog 60 [Cv sl x.k si sn x.pts] w (MR S M sl sn (CQ l x)):=by
 cases hz:AP l (AI l (Al l x [105,110,112,117,116])).2 [115,116,114,97,112] with
 | true=>exact Qp hm w sl si sn ci x hst hR hb hl hz
 | false =>
  cases hz2:AP l (AI l (Al l x [105,110,112,117,116])).2 [102,117,115,101] with
  | true=>exact SJ hm w sl si sn ci x hst hR hb hl hz hz2
  | false =>
   cases hz3:AP l (AI l (Al l x [105,110,112,117,116])).2 [115,108,111,116] with
   | true=>exact SH hm w sl si sn ci x hst hR hb hl hz hz2 hz3
   | false=>exact SI hm w sl si sn ci x hst hR hb hl hz hz2 hz3
end
end Go.Proofs.YtmmbidoldegemaaGreatDoor
