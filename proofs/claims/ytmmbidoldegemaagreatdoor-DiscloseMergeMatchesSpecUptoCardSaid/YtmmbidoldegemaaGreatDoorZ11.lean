/- Part 12 of the proof that the law of the last part holds; no conditions. -/
import Derived.Test.YtmmbidoldegemaaGreatDoorZ09
import Derived.Test.YtmmbidoldegemaaGreatDoorZ10
set_option linter.unusedSimpArgs false
set_option linter.unusedVariables false
set_option maxRecDepth 8000
set_option maxHeartbeats 8000000
namespace Go.Proofs.YtmmbidoldegemaaGreatDoor
open Go.RowKit Go.Sl
abbrev UN (si sn:Sv) (root pts:Int):Value:=.agg #[.slice si.1 si.2.1 si.2.2,.slice sn.1 sn.2.1 sn.2.2,.int .i64 root,.int .i64 pts]
abbrev MS (S:Ac) (M:List Chunk) (r:Pg×Int) (v:Value) (w:World):Prop :=
 ∃ S' si sn,S.Le S'∧v=.tuple #[UN si sn r.1.2.2.1 r.1.2.2.2.1,.int .i64 r.2]∧(RSl S' (Ar si) r.1.1∧RSl S' (Ar sn) r.1.2.1∧Au r.1.2.2.1∧Au r.1.2.2.2.1)∧St S' M w
theorem JE {S S':Ac} {M:List Chunk} {w:World} {e:Int} (hS:S.Le S') (h:St S' M w):MS S M (JR,e) (.tuple #[UN (none,0,0) (none,0,0) 0 0,.int .i64 e]) w :=
 ⟨S',(none,0,0),(none,0,0),hS,rfl,⟨.inl ⟨none,0,rfl,rfl,by unfold maxLen;omega⟩,.inl ⟨none,0,rfl,rfl,by unfold maxLen;omega⟩,Aj (a:=0) (by decide),Aj (a:=0) (by decide)⟩,h⟩
theorem dy {S M} (w:World) (hst:St S M w) (s:List UInt8) (hB:s.length≤1048576) :
  Ad Tryz.prog 35 [.string ⟨s.toArray⟩] w (MS S M (Cj s)):=by
 unfold Ad;have cT:=fun {M:List Chunk} (w:World) (hst:St S M w)=>Wr w hst s hB
 have hm:=K4 s;obtain ⟨R,hR⟩:∃ R,Cj s=R:=⟨_,rfl⟩
 have HR:=Lib.hid hR;rw [hR];unfold Cj at HR;clear hR;generalize Cr s=q at *;obtain ⟨l,e⟩:=q;simp only at cT hm HR;by_cases he:e≠0
 ·rw [if_pos he] at HR;go_enter Tryz.func35,Tryz.ntmps35;repeat' (first|(apply gK ();go_step)|(apply kc ();refine sc (cT _ hst) ?_;clear hst;rintro v w ⟨S1,so,hS1,rfl,hso,hst⟩)|(apply sS ();clear hst;intro w hst)|(apply sA ();clear hst;intro bk w hst)|fail)
  apply eU ()
 ·obtain rfl:e=0:=Decidable.of_not_not he;rw [if_neg he] at HR;by_cases hd:Ep l 0 0 > 30
  ·rw [if_pos hd] at HR;have cD:=fun {S M} (w:World) (hst:St S M w) v hl=>RA (S:=S) (M:=M) w hst v l hl hm
   generalize Ep l 0 0=D at *;clear he;go_enter Tryz.func35,Tryz.ntmps35;repeat' ((apply Z2 ());first|(apply gK ();go_step)|(apply kc ();refine sc (cT _ hst) ?_;clear hst;rintro v w ⟨S1,so,hS1,rfl,hso,hst⟩)|(apply sA ();clear hst;intro bk w hst)|fail)
   repeat' (first|(apply gK ();go_step)|(apply kc ();refine sc (cD _ hst _ hso) ?_;clear hst;rintro v w ⟨rfl,hst⟩)|(apply sS ();clear hst;intro w hst)|fail)
   apply eU ()
  ·rw [if_neg hd] at HR;have cD:=fun {S M} (w:World) (hst:St S M w) v hl=>RA (S:=S) (M:=M) w hst v l hl hm
   have hD:=hd;generalize Ep l 0 0=D at *;clear he hd;obtain ⟨X,hX⟩:∃ X,BR l (l.length+1) ⟨0,[],[],0⟩=X:=⟨_,rfl⟩
   rw [hX] at HR;have HX:=Lib.hid hX;clear hX;go_enter Tryz.func35,Tryz.ntmps35;repeat' ((apply Z1 ());first|(apply gK ();go_step)|(apply sA ();clear hst;intro bk w hst)|fail)
   obtain ⟨b2,rfl⟩:∃ b,b=bk:=⟨_,rfl⟩
   repeat' ((apply Z2 ());first|(apply gK ();go_step)|(apply kc ();refine sc (cT _ hst) ?_;clear hst;rintro v w ⟨S1,so,hS1,rfl,hso,hst⟩)|fail)
   clear cT;repeat' ((apply Z6 ());first|(apply gK ();go_step)|(apply kc ();refine sc (cD _ hst _ hso) ?_;clear hst;rintro v w ⟨rfl,hst⟩)|fail)
   clear cD hD;have hi0:AH l 0 ⟨0,[],[],0⟩:=.inl ⟨Int.le_refl _,Int.natCast_nonneg _,Int.le_refl _,Int.le_refl _⟩;have hr0:=I0 (l:=l) ⟨0,[],[],0⟩;repeat' (first|(apply gK ();go_step)|(apply sS ();clear hst;intro w hst)|(apply sA ();clear hst;intro bk w hst)|fail)
   replace hst:=(hst.nil 97 4).swap
   go_loopw [28] (fun _ wr=>∃ (f:Nat) (x:PS) (si:Sv) (ci:List Value),Hid (BR l f x=X)∧AH l 0 x∧x.nds=[]∧(x.ins.length≤l.length+1∧(0≤x.k→(x.ins.length:Int)≤x.k))∧BN l x+1≤f∧RL S1 ci x.ins∧St S1 (.box bk (Oi so x.k si (none,0,0) x.pts) 132::.sl (Ar si) 97 4 x.ins.length ci::.box b2 [.slice none 0 0,.slice none 0 0,.int .i64 0,.int .i64 0] 87::M) wr) (fun _ wr=>Iv l.length (Rj wr (.pointer (some ⟨bk,0,none⟩))))
   case atStart=>exact ⟨l.length+1,⟨0,[],[],0⟩,(none,0,0),[],HX,hi0,rfl,⟨Nat.zero_le _,fun _=>Int.le_refl _⟩,by omega,RL.nil,hst⟩
   case round =>
    clear hst HX hi0 hr0;obtain ⟨f,x,si,ci,HX,hi,hnd,hol,hf,hR,hst⟩:=hrel;have hk0:=Lib.hid (GR (o:=0) (i:=0) hst rfl);have cI:=fun {M:List Chunk} (w:World) (hst:St S1 M w)=>Cc w hst so si (none,0,0) x hso hm [105,110,112,117,116]
    cases hz:AP l x [105,110,112,117,116] with
    | true =>
     rw [hz] at cI;have hp:=ES hz;have hr:=KN hp.1 hp.2;obtain ⟨f,rfl⟩:∃ g,f=g+1:=⟨f - 1,by omega⟩
     have HN:=Lib.hid ((Ps (f:=f) hz).symm.trans HX.out);have cN:=fun {M:List Chunk} (w:World) (hst:St S1 (.sl (Ar si) 97 4 x.ins.length ci::M) w)=>am hm w so si (none,0,0) ci x hst hR (by omega) hso
     have m3:=My hi;have m4:=SK (l:=l) x;have m5:=Hj m4 m3.hi;have m6:=(Mx (l:=l) x).trans hnd;have m7:Hid ((CQ l x).ins.length=x.ins.length+1):=Lib.hid (by rw [Mz];simp);generalize CQ l x=y at *;have N4:=Lib.hid m4;have M3:=Lib.hid m3;have M6:=Lib.hid m6;have hlo:=hi.hi
     have HO:Hid (y.ins.length≤l.length+1∧(0≤y.k→(y.ins.length:Int)≤y.k)):=Lib.hid (by
      have h1:=hol.2 hp.1;have h2:=m7.out;unfold BI at m4;exact ⟨by omega,fun h=>by omega⟩)
     clear m3 m4 m6 hz hnd hi HX hR hol;repeat' (first|(apply gK ();go_step)|(apply kc ();refine sc (cI _ hst) ?_;clear hst;rintro v w ⟨rfl,hst⟩)|(apply kc ();refine sc (cN _ (hst.move (k:=1) rfl)) ?_;clear hst;rintro v w ⟨si1,ci1,rfl,hR1,hst⟩<;>(try replace hst:=nH hst))|apply sX ()|(apply sS ();clear hst;intro w hst)|fail)
     go_roundw
     case rel=>exact ⟨f,y,si1,ci1,HN,M3.out,M6.out,HO.out,by omega,hR1,hst.swap⟩
     case measure =>
      have h1:=GR (o:=0) (i:=1) hst rfl;rw [hk0.out,h1];have h2:=N4.out;unfold BI at h2;exact LG hp.1 hlo (by omega) M3.out.hi
    | false =>
     rw [hz] at cI;have HE:=HX.out;rw [Qo hz] at HE;subst HE;clear hz HX;repeat' (first|(apply gK ();go_step)|(apply kc ();refine sc (cI _ hst) ?_;clear hst;rintro v w ⟨rfl,hst⟩)|apply sX ()|fail)
     clear cI hk0;obtain ⟨S2,hS2,hst2,hxi⟩:=St.freeze (α:=Ip) (hst.move (k:=1) rfl) hR rfl;clear hst;have hst:=hst2;clear hst2;(try replace hst:=nH hst);replace hst:=(hst.nil 139 4).nil 3 1;replace hso:=hso.mono hS2;obtain ⟨R2,hR2⟩:∃ R2,E3 l (8 * l.length+8) (l.length+1) x []=R2:=⟨_,rfl⟩
     rw [hR2] at HR;have H2:=Lib.hid hR2;clear hR2 hR;have hrx:=I0 (l:=l) x
     go_loopw [7] (fun u7 wr=>∃ (f:Nat) (y:PS) (of:List Int) (T:Ac) (sn s7:Sv) (cn co:List Value),S2.Le T∧u7=Ar s7∧Hid (E3 l (8 * l.length+8) f y of=R2)∧AH l 0 y∧Hid (y.ins=x.ins)∧BN l y+1≤f∧(of.length≤l.length+1∧(0≤y.k→(of.length:Int)≤y.k))∧RL T cn y.nds∧RL T co of∧St T (.sl (Ar s7) 3 1 of.length co::.sl (Ar sn) 139 4 y.nds.length cn::.box bk (Oi so y.k si sn y.pts) 132::.box b2 [.slice none 0 0,.slice none 0 0,.int .i64 0,.int .i64 0] 87::M) wr) (fun _ wr=>Iv l.length (Rj wr (.pointer (some ⟨bk,0,none⟩))))
     case atStart=>exact ⟨l.length+1,x,[],S2,(none,0,0),(none,0,0),[],[],.refl _,rfl,H2,hi,Lib.hid rfl,by omega,⟨Nat.zero_le _,fun h=>h⟩,by rw [hnd];exact RL.nil,RL.nil,by rw [hnd];exact hst⟩
     case round =>
      clear hst H2 hi hrx hnd hol hf;obtain ⟨f,y,of,T,sn,s7,cn,co,hT,rfl,H2,hi,HI,hf,hol,hR,hO,hst⟩:=hrel;have hk0:=Lib.hid (GR (o:=0) (i:=2) hst rfl);obtain ⟨f,rfl⟩:∃ g,f=g+1:=⟨f - 1,by omega⟩
      have hone:=AW hst;have hsoT:RSl T (Ar so) l:=hso.mono hT;by_cases hk:0≤y.k∧y.k < l.length
      ·have hp:=hk.1;have hp2:=hk.2;have hr:=KN hp hp2;have HN:=Lib.hid ((TI (f:=f) (of:=of) hk).symm.trans H2.out);have hrl:=I0 (l:=l) y;have cS:=fun {M:List Chunk} (w:World) (hst:St T (.sl (Ar sn) 139 4 y.nds.length cn::M) w)=>(Zg hm (g:=8 * l.length+8) (by omega) (8 * l.length+8)).1 w so si sn cn y hst hR (hso.mono hT) hi (by omega)
       have m3:=(Et (l:=l) (8 * l.length+8) (8 * l.length+8)).1 _ _ hi;have m4:=(GH (l:=l) (8 * l.length+8) (8 * l.length+8)).1 y hi.lo;have m5:=Hj m4 m3.hi;have m6:=(NK (l:=l) (8 * l.length+8) (8 * l.length+8)).1 y;generalize BZ l (8 * l.length+8) (8 * l.length+8) y=q at *;have N4:=Lib.hid m4;have M3:=Lib.hid m3;have M6:=Lib.hid (m6.trans HI.out);have hlo:=hol.2 hp
       have HO:Hid (∀ n:Nat,n=of.length+1→n≤l.length+1∧(0≤q.2.k→(n:Int)≤q.2.k)):=Lib.hid (by
        intro n hn;unfold BI at m4;exact ⟨by omega,fun h=>by omega⟩)
       clear m3 m4 m6 hi HI H2;repeat' ((apply V7 ());first|apply sG ()|(apply gK ();go_step)|(apply kc ();refine sc (cS _ (hst.move (k:=1) rfl)) ?_;clear hst;rintro v w ⟨S3,sn3,cn3,hS3,rfl,hb3,hR3,hst⟩<;>(try replace hst:=nH hst))|apply sX ()|(apply sS ();clear hst;intro w hst)|(apply sA ();clear hst;intro bk w hst)|fail)
       repeat' (first|(apply gK ();go_step)|fail)
       refine AA (vs:=[(.int .i64 q.1)]) hst Aa Aa rfl rfl (by simp [Value.cells]) rfl (by omega) (by omega) ?_;clear hst;intro u w hst;refine nX ?_;refine AG (j:=0) hst Ab Ab SlIn.h rfl Aa Aa Aa (by simp [Value.cells,Value.oneCell']) (by omega) (by omega) (by decide) ?_;clear hst;intro v' w hst;refine nX ?_;(try replace hst:=nH hst);replace hst:=hst.drop;obtain ⟨ay,cy,rfl⟩:=sl_formk (k:=2) hst rfl;(try refine nX ?_);repeat' (first|(apply gK ();go_step)|apply sX ()|(apply sS ();clear hst;intro w hst)|fail)
       go_roundw
       case rel=>exact ⟨f,q.2,of++[q.1],S3,sn3,(ay,of.length+1,cy),cn3,co++[.int .i64 q.1],hT.trans hS3,rfl,HN,M3.out,M6,by omega,HO.out _ (by simp),hR3,(hO.mono hS3).append (Cg (Aj hb3)),by simpa using St.swap hst.sub⟩
       case measure =>
        have h1:=GR (o:=0) (i:=3) hst rfl;rw [hk0.out,h1];have h2:=N4.out;unfold BI at h2;exact LG hp (by omega) (by omega) M3.out.hi
      ·have HE:=H2.out;rw [Wo hk] at HE;have HE:=Lib.hid HE;have hy1:=De (l:=l) (s:=0) (17,0,⟨[]⟩,of,()) (x:=y);have hI:=hi.nds;have hp0:=hi.pts0;have hp1:=hi.pts1;have hlo:=hi.lo;obtain ⟨S3,hS3,hst2,hxo⟩:=St.freeze (α:=Int) hst hO rfl;have hcut:y.k < 0∨(0≤y.k∧(l.length:Int)≤y.k):=by omega
       clear hst hk H2;have hst:=hst2;clear hst2;have hso3:RSl S3 (Ar so) l:=hsoT.mono hS3;have cN:=fun {M:List Chunk} (w:World) (hst:St S3 (.sl (Ar sn) 139 4 y.nds.length cn::M) w)=>El w so si sn cn y hst (hR.mono hS3) (by omega) 17 0 ⟨[]⟩ s7 of (Gi (Aj (by decide)) (Aj (by decide)) (by decide) hxo)
       obtain ⟨r,hr⟩:∃ r,Bs y (17,0,⟨[]⟩,of,())=r:=⟨_,rfl⟩
       have hrk:=(congrArg (fun r:Int×PS=>r.2.k) hr).symm.trans (Em y (17,0,⟨[]⟩,of,()));have hri:=(congrArg (fun r:Int×PS=>r.2.ins) hr).symm.trans (Df y (17,0,⟨[]⟩,of,()));have hrp:r.2.pts=y.pts:=by rw [← hr];unfold Bs;split<;>rfl
       rw [hr] at cN HE;have HF:=HR.out;rw [← HE.out] at HF;have HF:=Lib.hid HF;have HRI:=Lib.hid (hri.trans HI.out);have HRK:=Lib.hid hrk;have HRP:=Lib.hid hrp;clear hr hrk hri hrp HR HI HE hy1
       have hend:∀ (w':World) (S':Ac) (sn':Sv) (cn':List Value),S3.Le S'→0≤r.1∧r.1≤100000→RL S' cn' r.2.nds→St S' (.sl (Ar sn') 139 4 r.2.nds.length cn'::M) w'→r.2.k≥0→r.2.nds.length≤400→MS S M R (.tuple #[UN si sn' r.1 r.2.pts,.int .i64 0]) w':=by
        intro w' S' sn' cn' hS' hb hRL hst' h1 h2;rw [← HF.out];unfold Nt;rw [if_neg (by omega),if_neg (by omega)];obtain ⟨S4,hS4,hst4,hx4⟩:=St.freeze (α:=Nd) hst' hRL rfl;refine ⟨S4,si,sn',hS1.trans (hS2.trans (hT.trans (hS3.trans (hS'.trans hS4)))),rfl,⟨?_,hx4,Aj hb,?_⟩,hst4⟩
        ·rw [HRI.out];exact hxi.mono (hT.trans (hS3.trans (hS'.trans hS4)))
        ·show Au r.2.pts;rw [HRP.out];exact Aj ⟨by omega,by omega⟩
       have HEND:=Lib.hid hend
       have herr:∀ (w':World) (S':Ac),S3.Le S'→St S' M w'→r.2.k < 0→MS S M R (.tuple #[UN (none,0,0) (none,0,0) 0 0,.int .i64 3]) w':=by
        intro w' S' hS' hst' h1;rw [← HF.out];unfold Nt;rw [if_pos h1];exact JE (hS1.trans (hS2.trans (hT.trans (hS3.trans hS')))) hst'
       have HERR:=Lib.hid herr
       have hbig:∀ (w':World) (S':Ac),S3.Le S'→St S' M w'→¬ r.2.k < 0→r.2.nds.length > 400→MS S M R (.tuple #[UN (none,0,0) (none,0,0) 0 0,.int .i64 2]) w':=by
        intro w' S' hS' hst' h1 h2;rw [← HF.out];unfold Nt;rw [if_neg h1,if_pos h2];exact JE (hS1.trans (hS2.trans (hT.trans (hS3.trans hS')))) hst'
       have HBIG:=Lib.hid hbig;clear hend herr hbig HF HRI HRP HRK;rcases hcut with hcut|⟨hcut,hcut2⟩
       all_goals
        repeat' ((apply Lr ());first|apply sG ()|(with_reducible refine Sl.k_guard ?_;refine Sl.guard_cases rfl ?_ ?_<;>intro hg<;>first|exact gX|(simp only [hg,Bool.not_true,Bool.not_false])<;>(try replace hg:=gN hg)<;>(try refine nX ?_))|(apply gK ();go_step)|(apply kc ();refine sc (cN _ (hst.move (k:=0) rfl)) ?_;clear hst;rintro v w ⟨S4,sn4,cn4,hS4,rfl,hb4,hR4,hst⟩<;>(try replace hst:=nH hst))|apply sX ()|(apply sS ();clear hst;intro w hst)|(apply sA ();clear hst;intro bk w hst)|fail)
        by_cases h1:r.2.k < 0
        ·repeat' (first|(apply gK ();go_step)|apply sX ()|(apply sS ();clear hst;intro w hst)|fail)
         refine A7 rfl (AT hst rfl _ BoxIn.h Aa rfl rfl) (A3 rfl) ?_;(try simp only [AX,List.drop_zero,List.drop_succ_cons,List.take_succ_cons,List.take_zero,As,Ap]);exact ⟨_,rfl,HERR.out _ S4 hS4 hst.sub h1⟩
        ·by_cases h2:r.2.nds.length > 400
         ·have h3:(r.2.nds.length:Int) > 400:=by omega
          repeat' (first|(apply gK ();go_step)|apply sX ()|(apply sS ();clear hst;intro w hst)|fail)
          refine A7 rfl (AT hst rfl _ BoxIn.h Aa rfl rfl) (A3 rfl) ?_;(try simp only [AX,List.drop_zero,List.drop_succ_cons,List.take_succ_cons,List.take_zero,As,Ap]);exact ⟨_,rfl,HBIG.out _ S4 hS4 hst.sub h1 h2⟩
         ·have h3:(r.2.nds.length:Int)≤400:=by omega
          repeat' (first|(apply gK ();go_step)|apply sX ()|(apply sS ();clear hst;intro w hst)|fail)
          refine A7 rfl (AT hst rfl _ BoxIn.h Aa rfl rfl) (A3 rfl) ?_;(try simp only [AX,List.drop_zero,List.drop_succ_cons,List.take_succ_cons,List.take_zero,As,Ap]);exact ⟨_,rfl,HEND.out _ S4 sn4 cn4 hS4 hb4 hR4 hst.sub (by omega) (by omega)⟩
end Go.Proofs.YtmmbidoldegemaaGreatDoor
