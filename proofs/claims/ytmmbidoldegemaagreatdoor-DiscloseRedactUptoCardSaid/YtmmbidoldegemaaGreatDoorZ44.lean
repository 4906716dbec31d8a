/- Part 45 of a proof; no conditions. -/
import Derived.Test.YtmmbidoldegemaaGreatDoorZ43
set_option linter.all false
set_option maxRecDepth 8000
set_option maxHeartbeats 8000000
namespace Go.Proofs.YtmmbidoldegemaaGreatDoor
open Go.RowKit Go.Sl Go.Proofs.Tryz
abbrev i8 (S:Ad) (M:List J) (r:List (List Int)×Int) (v:Value) (w:World):Prop:=∃ S' so,S.Le S'∧v=.tuple #[Ar so,.int .i64 r.2]∧RSl S' (Ar so) r.1∧St S' M w
theorem Mp {S}:RSl S (.slice none 0 0) ([]:List (List Int)):=.inl ⟨none,0,rfl,rfl,by unfold maxLen;omega⟩
theorem Sr {S M} (w) (V:St S M w) {p} (hb:Fs p) (cl) (hR:Z.R S cl p) (vt took) (ht:RSl S vt took) (hm:took.length≤1048576):
  Ac prog 48 [.agg cl.toArray,vt] w fun v w'=>O8 S M (DS (BM p.2.1 p.2.2.1 p.2.2.2.1) took) v w':=by
 obtain ⟨si,sn,rfl,L⟩:=Fj hb hR;have hln:=L.ln;exact dB w V _ _ _ _ p.1 p.2.1 L.i L.n (by omega) L.r L.q vt took ht hm
theorem dA {S M} (w) (V:St S M w) {p} (hb:Fs p) (cl) (hR:Z.R S cl p) (vt took) (ht:RSl S vt took) (hm:took.length≤1048576) (hi:DS (BM p.2.1 p.2.2.1 p.2.2.2.1) took=none):
  Ac prog 48 [.agg cl.toArray,vt] w fun v w'=>v=.tuple #[.slice none 0 0,.bool false]∧St S M w' :=
 (Sr w V hb cl hR vt took ht hm).mono fun v w' h=>by rw [hi] at h;exact h
theorem dz {S M} (w) (V:St S M w) {p} (hb:Fs p) (cl) (hR:Z.R S cl p) (vt took l) (ht:RSl S vt took) (hm:took.length≤1048576) (hi:DS (BM p.2.1 p.2.2.1 p.2.2.2.1) took=some l) (hl:∀ x∈l,Au x):
  Ac prog 48 [.agg cl.toArray,vt] w fun v w'=>∃ S' a n c,S.Le S'∧v=.tuple #[.slice a n c,.bool true]∧RSl S' (.slice a n c) l∧St S' M w' :=
 (Sr w V hb cl hR vt took ht hm).mono fun v w' h=>by
  rw [hi] at h;obtain ⟨u,rfl,V⟩:=h;obtain ⟨S2,hS2,hst2,hx⟩:=St.freeze (α:=Int) V (PW hl) rfl;obtain ⟨a,n,c,rfl⟩:=Z6 hx;exact ⟨S2,a,n,c,hS2,rfl,hx,hst2⟩
theorem N7 {P S M l T F x zero bb v p} {j k n:Nat} {c} {xs:List (List Int)} {y} (hx:Ai l x=p) (L:JY v p (j * 1)) (hk:M[k]? = some (.sl v F 1 n c)) (hR:RL S c xs) (hT:Ty P T false 1 zero bb) (hy:xs[j]? = some y):∃ u,RSl S u y∧Qt P l (.load T x) S M u:=by
 obtain ⟨u,⟨cs,rfl,w0,h,hr⟩,q⟩:=BZ (α:=List Int) hx L hk hR hT hy;subst h;exact ⟨_,hr,q⟩
set_option maxRecDepth 20000 in
theorem Sm {S M} (w) (V:St S M w) (hG:Bu S) (cs ev) (hR:Z.R S cs ev) (ok:Ox ev) (hnh:ev.2.1.length≤100000) (hnp:ev.2.2.1.length≤100000) (vp pg) (hpg:RSl S vp pg) (hpb:∀ p∈pg,Fs p):
  Ac prog 18 [.agg cs.toArray,vp] w (i8 S M (FV ev pg)):=by
 unfold Ac;obtain ⟨R,hRR⟩:∃ R,FV ev pg=R:=⟨_,rfl⟩
 rw [hRR];have HR:=Lib.hid hRR;clear hRR;have hone:=Z.one hR;go_enter func18,ntmps18;repeat' ((apply ZZ 1);first|(apply O ();go_step)|(apply sC ();clear V;intro bx w V)|fail)
 obtain ⟨S1,hS1,hst1,hpe⟩:=AC (α:=Cz) V hR (Z.len hR);clear V;have V:=hst1;clear hst1;generalize Value.pointer (some ⟨_,0,none⟩)=pE at hpe;have hpg1:=hpg.mono hS1;have hG1:=Bu.mono hS1 hG;have hR1:=Z.mono hS1 hR;clear hR hpg hG;have cC:=fun {M} w (V:St S1 M w) cl (hR:Z.R S1 cl ev)=>SJ w V hG1 cl ev hR ok
 have cH:=fun {M} w (V:St S1 M w) (va:Value) (ha:RSl S1 va ev.2.1)=>RE w V va ev.2.1 ha (by omega)
 by_cases hl:pg.length=ev.2.1.length
 ·have hz1:(((pg.length:Nat):Int) != ((ev.2.1.length:Nat):Int))=false:=bne_eq_false_iff_eq.2 (by omega)
  cases hz2:ev.2.1.any DP with
  | true =>
   have HN:Hid ((([],1):List (List Int)×Int)=R):=Lib.hid (by rw [← HR.out];unfold FV;rw [if_pos (.inr hz2)]);rw [hz2] at cH;clear hz2 HR hl;repeat' (first|apply sK ()|apply sG ()|(apply O ();go_step)|(apply tL ();refine An V (Aj (y:=ev.2.1) X Ak Y) ?_;rintro vha ⟨hvha,hvha1⟩<;>apply nZ ())|(apply kc ();refine sc (cH _ V vha hvha) ?_;clear V;rintro v w ⟨rfl,V⟩)|apply sY ()|(apply sJ ();intro v L)|fail)
   apply gQ ()
  | false =>
   rw [hz2] at cH;by_cases hck:CX ev.2.1 [] ev.2.2.1=0
   ·have HN:Hid (Wg (GI pg ev.2.1 (LF ev.2.1 ev.2.2.1) [])=R):=Lib.hid (by rw [← HR.out];unfold FV;rw [if_neg (by rw [hz2];simp [hl]),if_neg (by rw [hck];simp)]);have HL:=Lib.hid hl;have HB:=Lib.hid (gH hz2 ok);have HP:=Lib.hid (fun es k hk he=>YE hck es k hk he);rw [hck] at cC;clear hz2 HR hl hck;have hpt:=ok.pt;repeat' ((apply ZZ 6);first|apply sK ()|apply sG ()|(apply O ();go_step)|(apply tL ();refine An V (Aj (y:=ev.2.1) X Ak Y) ?_;rintro vha ⟨hvha,hvha1⟩<;>apply nZ ())|(apply tL ();refine An V (Aw (y:=ev) X hpe Y) ?_;rintro v27 ⟨c27,rfl,hc27⟩<;>apply nZ ())|(apply kc ();refine sc (cH _ V vha hvha) ?_;clear V;rintro v w ⟨rfl,V⟩)|(apply kc ();refine sc (cC _ V c27 hc27) ?_;clear V;rintro v w ⟨rfl,V⟩)|apply sY ()|(apply sJ ();intro v L)|fail)
    clear cC cH hz1 hc27 hvha;replace V:=V.nil 52 1;repeat' (first|(apply O ();go_step)|(apply tL ();refine An V (Aj (y:=ev.2.1) X Ak Y) ?_;rintro vh ⟨hvh,hvh1⟩<;>apply nZ ())|apply sY ()|(apply sJ ();intro v L)|fail)
    have okh:=Lf hvh;generalize hhs:ev.2.1=hs at *;have HHS:=Lib.hid hhs;clear hhs
    go_loopw [7,35] (fun u7 u35 wr=>∃ (i:Nat) (T:Ad) (es:List Dr) (ao:Option Addr) (ko:Nat),i≤hs.length∧S1.Le T∧u7=.slice ao i ko∧u35=.int .i64 (i:Int)∧Hid (es.map (·.xs)=Ed (hs.take i))∧Hid (∀ e∈es,∀ x∈e.xs,Au x)∧St T (.sl (.slice ao i ko) 52 1 i (es.map Dr.v)::(es.map BR++M)) wr) (fun _ v _=>hs.length - (intOf v).toNat)
    case atStart=>exact ⟨0,S1,[],none,0,Nat.zero_le _,Ad.Le.refl S1,rfl,rfl,Lib.hid rfl,Lib.hid (fun e he=>(by cases he)),V⟩
    case round =>
     clear V;obtain ⟨i,T,es,ao,ko,hi,hT,rfl,rfl,HE,HI,V⟩:=hrel;have hone7:=BE (k:=0) V rfl;by_cases hlt:i < hs.length
     ·have hvT:=hvh.mono hT;have kh:=okh _ (List.getElem_mem hlt);obtain ⟨n,hn,hn8⟩:=HB.out _ (List.getElem_mem hlt);have hrep:(hs[i]).2.2.1.toNat=n:=by omega
      have HSN:=Lib.hid ((TM hlt).trans (by rw [hrep,← HE.out]));have HPM:=Lib.hid (fun e a=>VY a es e M);have hcl0:(es.map Dr.v).length=i:=(Go.Sl.St.get V (k:=0) rfl).1.trans (Nat.mul_one _);clear HE hrep;generalize es.map BR++M=Nqq at *;repeat' ((apply ZZ 9);first|(apply O ();go_step)|fail)
      refine wp_region_lit ?_;repeat' (first|apply sP ()|(apply sJ ();intro v L)|(apply sZ ();clear V;intro bk w V)|fail)
      refine Cf V rfl N.h Y (x0:=hs[i]) (cs:=GD hs[i]) X (Dw kh) rfl ?_;clear V;intro w V;apply nZ ();repeat' ((apply ZZ 10);first|(apply O ();go_step)|fail)
      obtain ⟨T1,hT1,hst1,hph⟩:=AC (α:=Hd) V (Dw kh) (Z.len (Dw (S:=S1) kh));clear V;have V:=hst1;clear hst1;generalize Value.pointer (some ⟨_,0,none⟩)=pH at hph;repeat' (first|(apply O ();go_step)|fail)
      refine Ay (vs:=[.int .i64 (-1)]) V Y Y rfl rfl (by simp [Value.cells]) rfl (by omega) (by omega) ?_;clear V;intro x40 w hst0;obtain ⟨T2,hT2,V,hX2⟩:=St.freeze (α:=Int) (xs:=[-1]) hst0 (M9 (by unfold Au;omega) RL.nil) rfl;clear hst0;apply nZ ()
      have cRp:∀ {M:List J} (w:World) (V:St T2 M w),Ac prog 47 [x40,.int .i64 (hs[i]).2.2.1] w fun v w'=>∃ ad cap,v=.slice ad n cap∧St T2 (.sl (.slice ad n cap) 3 1 n (cF Ba (List.replicate n (-1)))::M) w':=fun {M} w V=>by
       rw [hn];exact Yv w V x40 hX2 n hn8
      have hph2:=Pt.mono hT2 hph;clear hph;repeat' (first|(apply kc ();refine sc (cRp _ V) ?_;clear V;rintro v w ⟨ad,cap,rfl,V⟩)|(apply tL ();refine An V (Am X Ak Y) ?_;rintro v ⟨rfl,hI⟩<;>apply nZ ())|(apply sJ ();intro v L)|fail)
      refine Ay (vs:=[(.slice ad n cap)]) V Y Y rfl rfl (by simp [Value.cells]) rfl (by omega) (by omega) ?_;clear V;intro u w V;refine nY ?_;apply uC ();clear V;intro v' w V;refine nY ?_;(try replace V:=nH V);replace V:=V.drop;obtain ⟨ay,cy,rfl⟩:=Go.Sl.sl_formk (k:=1) V rfl
      have hstE:St T2 (BR ⟨(0,0),ad,cap,List.replicate n (-1)⟩::.sl (.slice ay (i+1) cy) 52 1 (i+1) ((es++[(⟨(0,0),ad,cap,List.replicate n (-1)⟩:Dr)]).map Dr.v)::Nqq) w:=by
       rw [List.map_append];show St T2 (.sl (.slice ad (List.replicate n (-1:Int)).length cap) 3 1 (List.replicate n (-1:Int)).length (cF Ba (List.replicate n (-1)))::.sl (.slice ay (i+1) cy) 52 1 (i+1) (es.map Dr.v++[.slice ad (List.replicate n (-1:Int)).length cap])::Nqq) w;rw [List.length_replicate];exact V
      clear V;have V:=hstE;clear hstE;apply nZ ();repeat' (first|(apply O ();go_step)|fail)
      go_roundw
      case rel=>exact ⟨i+1,T2,es++[⟨(0,0),ad,cap,List.replicate n (-1)⟩],ay,cy,by omega,hT.trans (hT1.trans hT2),rfl,by go_num,Lib.hid (by rw [HSN.out,List.map_append];rfl),Lib.hid (dE HI.out n),V.perm (HPM.out _ _)⟩
      case measure=>simp [intOf];omega
     ·obtain rfl:i=hs.length:=by omega
      rw [List.take_length] at HE;have hleT:=hS1.trans hT;have hpeT:=Pt.mono hT hpe;have hpgT:=hpg1.mono hT;clear hvh hpe hpg1 hG1 hR1 hone hi hlt okh;repeat' (first|(apply O ();go_step)|(apply tL ();refine An V (Aj (y:=ev.2.2.1) X Ak Y) ?_;rintro vq ⟨hvq,hvq1⟩<;>apply nZ ())|apply sY ()|(apply sJ ();intro v L)|fail)
      generalize hps:ev.2.2.1=ps at *;clear hps
      go_loopw [50] (fun u50 wr=>∃ (i:Nat) (T':Ad) (es:List Dr),i≤ps.length∧T.Le T'∧u50=.int .i64 (i:Int)∧Hid (es.map (·.xs)=(ps.take i).foldl Gw (Ed hs))∧Hid (∀ e∈es,∀ x∈e.xs,Au x)∧St T' (.sl (.slice ao hs.length ko) 52 1 hs.length (es.map Dr.v)::(es.map BR++M)) wr) (fun v _=>ps.length - (intOf v).toNat)
      case atStart=>exact ⟨0,T,es,Nat.zero_le _,Ad.Le.refl T,rfl,HE,HI,V⟩
      case round =>
       clear V HE HI;rename_i es0;obtain ⟨i,T',es,hi,hT',rfl,HE,HI,V⟩:=hrel;have hone7:=BE (k:=0) V rfl;by_cases hlt:i < ps.length
       ·have hvT:=hvq.mono hT';obtain ⟨l1,e,l2,rfl,hj,hq0,hq1,hset⟩:=HP.out es i hlt HE.out;have hpi:=hpt _ (List.getElem_mem hlt);have hst0:=V.perm (OY _ l1 l2 e M).symm;have hcl0:((l1++e::l2).map Dr.v).length=hs.length:=(Go.Sl.St.get V (k:=0) rfl).1.trans (Nat.mul_one _);obtain ⟨ek,ea,ec,exs⟩:=e;simp only at hq1;have HPM:=Lib.hid (fun e a=>OY a l1 l2 e M);have hcell:=dW l1 ⟨ek,ea,ec,exs⟩ l2;have HCV:=Lib.hid (fun x=>WV l1 ek ea ec exs l2 (ps[i]).2.1.toNat x);have HEN:=Lib.hid (hset ⟨ek,ea,ec,exs.set (ps[i]).2.1.toNat (ps[i]).2.2.1⟩ rfl);have HIN:=Lib.hid (dD HI.out hpi.2.2.1 (q:=(ps[i]).2.1.toNat));have hjn:(ps[i]).1.toNat < hs.length:=by rw [← hcl0,List.length_map,List.length_append,List.length_cons];omega
        have hj0:0≤(ps[i]).1:=by omega
        have ejt:(ps[i]).1.toNat=l1.length:=by omega
        have hclen:l1.length * 1+1≤((l1++⟨ek,ea,ec,exs⟩::l2).map Dr.v).length:=by rw [List.length_map,List.length_append,List.length_cons];omega
        clear V HE HI hset hj;have V:St T' (.sl (.slice ea exs.length ec) 3 1 exs.length (cF Ba exs)::.sl (.slice ao hs.length ko) 52 1 hs.length ((l1++⟨ek,ea,ec,exs⟩::l2).map Dr.v)::((l1++l2).map BR++M)) _:=hst0;clear hst0;generalize (l1++l2).map BR++M=Nqq at *;generalize (l1++⟨ek,ea,ec,exs⟩::l2).map Dr.v=C at *;repeat' ((apply ZZ 14);first|(apply O ();go_step)|fail)
        refine wp_region_lit ?_;repeat' (first|(apply tL ();refine An V (Aw X Ak Y) ?_;rintro v ⟨cl,rfl,hcl⟩<;>apply nZ ())|(apply sJ ();intro v L)|(apply sZ ();clear V;intro bk w V)|fail)
        have hclx:=hcl;obtain ⟨sx,rfl,hx0,hx1,hx2,hx3⟩:=CK hcl;clear hcl;rw [show Z.agg Pn=true from rfl];apply nZ ();repeat' ((apply ZZ 15);first|(apply O ();go_step)|(apply sT ();clear V;intro w V)|fail)
        obtain ⟨T1,hT1,hst1,hpq⟩:=AC (α:=Pn) V hclx rfl;clear V;have V:=hst1;clear hst1 hclx hx0;generalize Value.pointer (some ⟨_,0,none⟩)=pQ at hpq;have honeE:=BE (k:=0) V rfl;refine Bm V kr ?_;clear V;intro w V;have hSS:=Cn V;apply nZ ();refine pd 0 rfl ?_;refine px 1 rfl (As X hpq Y Y rfl) ?_;rintro v1 hp1;refine px 2 rfl (Am X hp1 Y) ?_;rintro v2 ⟨rfl,hI2⟩;refine px 5 rfl (As X hpq Y Y rfl) ?_;rintro v5 hp5;refine px 6 rfl (Am X hp5 Y) ?_;rintro v6 ⟨rfl,hI6⟩;refine px 7 rfl (As X hpq Y Y rfl) ?_;rintro v7 hp7;refine px 8 rfl (Am X hp7 Y) ?_;rintro v8 ⟨rfl,hI8⟩;refine po 3 rfl ?_;intro K G;refine An V (Ao V X SlIn.h rfl Y Y hj0 hjn) ?_;rintro v3 hp3;rw [ejt] at hp3;refine pn G ?_;clear G K;refine po 4 rfl ?_;intro K G;refine Ag V (G4 X hp3 SlIn.h Y hcell hclen) ?_;refine pn G ?_;clear G K;refine po 9 rfl ?_;intro K G;refine An V (Ao V X SlIn.h rfl Y Y hq0 hq1) ?_;rintro v9 hp9;refine pn G ?_;clear G K;refine po 10 rfl ?_;intro K G;refine Tu (xs:=exs) V X hp9 SlIn.h Y X hq1 ?_;clear V;intro w V;(try replace V:=nH V);refine pn G ?_;clear G K;refine AK kr ?_
        have hstE:St T1 (BR ⟨ek,ea,ec,exs.set (ps[i]).2.1.toNat (ps[i]).2.2.1⟩::.sl (.slice ao hs.length ko) 52 1 hs.length ((l1++⟨ek,ea,ec,exs.set (ps[i]).2.1.toNat (ps[i]).2.2.1⟩::l2).map Dr.v)::Nqq) w:=by
         rw [HCV.out];show St T1 (.sl (.slice ea (exs.set (ps[i]).2.1.toNat (ps[i]).2.2.1).length ec) 3 1 (exs.set (ps[i]).2.1.toNat (ps[i]).2.2.1).length (cF Ba (exs.set (ps[i]).2.1.toNat (ps[i]).2.2.1))::_) w;rw [List.length_set];exact V
        clear V;have V:=hstE;clear hstE;repeat' (first|(apply O ();go_step)|fail)
        go_roundw
        case rel=>exact ⟨i+1,T1,_,by omega,hT'.trans hT1,by go_num,HEN,Lib.hid (HIN.out ek ea ec),V.perm (HPM.out _ _)⟩
        case measure=>simp [intOf];omega
       ·obtain rfl:i=ps.length:=by omega
        rw [List.take_length] at HE;have hcl0:(es.map Dr.v).length=hs.length:=(Go.Sl.St.get V (k:=0) rfl).1.trans (Nat.mul_one _);obtain ⟨T3,hT3,hfr,hst1⟩:=On (V.perm (VZ _ es M)) HI.out;clear V;have V:=hst1;clear hst1;have hRL:=R4 hfr;have hpe3:=Pt.mono (hT'.trans hT3) hpeT;have hpg3:=hpgT.mono (hT'.trans hT3);have hle3:=hleT.trans (hT'.trans hT3);rw [HE.out] at hRL
        have hol:(ps.foldl Gw (Ed hs)).length=hs.length:=by
         have:=hRL.1;rw [hcl0] at this;show _=_;have e:(Z.z (List Int))=1:=rfl;rw [e,Nat.mul_one] at this;exact this.symm
        have hlp:=HL.out;obtain ⟨K0,hK0⟩:∃ K,GI pg hs (ps.foldl Gw (Ed hs)) []=K:=⟨_,rfl⟩
        have HN2:Hid (Wg K0=R):=Lib.hid (by rw [← hK0];exact HN.out);have HK0:=Lib.hid hK0;have H8:=Lib.hid (V0 HB.out ps);clear HB hK0 HN HE HI hfr hpeT hpgT hleT hT' hT3 hvq HP hpt hi hlt hcl0;generalize ps.foldl Gw (Ed hs)=Oqq at *;generalize es.map Dr.v=cs0 at *;have HOL:=Lib.hid hol;have hln8:pg.length≤100000:=by omega
        have hplh:pg.length≤hs.length:=by omega
        clear hol hlp;repeat' (first|(apply O ();go_step)|apply sY ()|fail)
        go_loopw [67] (fun u67 wr=>∃ (k:Nat) (T4:Ad) (acc os:List (List Int)) (cells:List Value),k≤pg.length∧T3.Le T4∧u67=.int .i64 (k:Int)∧Hid (acc.length=k∧os.length+k=pg.length)∧Hid (GI (pg.drop k) (hs.drop k) os acc=K0)∧Hid (∀ o∈os,(∀ x∈o,Au x)∧o.length≤8)∧RL T4 cells (acc++os)∧St T4 (.sl (.slice ao hs.length ko) 52 1 hs.length cells::M) wr) (fun v _=>pg.length - (intOf v).toNat)
        case atStart=>exact ⟨0,T3,[],Oqq,cs0,Nat.zero_le _,Ad.Le.refl T3,rfl,Lib.hid ⟨rfl,by rw [HOL.out];exact HL.out.symm⟩,HK0,Lib.hid (fun o ho=>⟨fh hRL o ho,H8.out o ho⟩),hRL,V⟩
        case round =>
         clear V hRL HK0;obtain ⟨k,T4,acc,os,cells,hk,hT4,rfl,HA,HK,HI,hRk,V⟩:=hrel;have hone7:=BE (k:=0) V rfl;by_cases hlt:k < pg.length
         ·obtain ⟨o,os',rfl⟩:∃ o os',os=o::os':=by
           cases os with
           | nil=>have:=HA.out.2;simp at this;omega
           | cons o os'=>exact ⟨o,os',rfl⟩
          have hpk:=hpb _ (List.getElem_mem hlt);have hkh:k < hs.length:=by omega
          have hpgT4:=hpg3.mono hT4;have HKD:=HK.out;rw [List.drop_eq_getElem_cons hlt,List.drop_eq_getElem_cons hkh] at HKD;have hgk:(acc++o::os')[k]? = some o:=by rw [← HA.out.1,List.getElem?_append_right (Nat.le_refl _),Nat.sub_self];rfl
          have HA1:=Lib.hid (show (acc++[o]).length=k+1∧os'.length+(k+1)=pg.length from ⟨by rw [List.length_append,HA.out.1];rfl,by have:=HA.out.2;simp only [List.length_cons] at this;omega⟩);have HI1:=Lib.hid (fun q hq=>HI.out q (List.mem_cons_of_mem o hq));have hIo:=Lib.hid (HI.out o List.mem_cons_self);by_cases hz:(pg[k]).2.1.length=0
          ·rw [dt hz] at HKD;have HKN:=Lib.hid HKD;have hzz:((((pg[k]).2.1.length:Nat):Int) == 0)=true:=beq_iff_eq.2 (by omega);clear HK HKD hgk HA HI;repeat' ((apply ZZ 19);first|(apply O ();go_step)|fail)
           refine wp_region_lit ?_;repeat' (first|(apply O ();go_step)|(apply tL ();refine An V (Aw X Ak Y) ?_;rintro v ⟨cl,rfl,hcl⟩<;>apply nZ ())|(apply sJ ();intro v L)|(apply sZ ();clear V;intro bk w V)|fail)
           have hclx:=hcl;obtain ⟨si,sn,rfl,hpR⟩:=Fj hpk hcl;clear hcl hpR;rw [show Z.agg Pg=true from rfl];apply nZ ();repeat' ((apply ZZ 20);first|(apply O ();go_step)|(apply sT ();clear V;intro w V)|fail)
           obtain ⟨T5,hT5,hst1,hpP⟩:=AC (α:=Pg) V hclx rfl;clear V;have V:=hst1;clear hst1 hclx;generalize Value.pointer (some ⟨_,0,none⟩)=pP at hpP;have hR5:=hRk.mono hT5;have hpe5:=Pt.mono (hT4.trans hT5) hpe3;repeat' (first|apply sK ()|(apply O ();go_step)|(apply tL ();refine An V (Aj X Ak Y) ?_;rintro v ⟨hvl,hv1⟩<;>apply nZ ())|apply sY ()|(apply sJ ();intro v L)|fail)
           go_roundw
           case rel=>exact ⟨k+1,T5,acc++[o],os',cells,by omega,hT4.trans hT5,by go_num,HA1,HKN,HI1,by rw [List.append_assoc];exact hR5,V⟩
           case measure=>simp [intOf];omega
          ·have hzz:((((pg[k]).2.1.length:Nat):Int) == 0)=false:=beq_eq_false_iff_ne.2 (by omega);have hk0:(0:Int)≤(k:Int):=by omega
           have hkn:((k:Int)).toNat < hs.length:=by omega
           obtain ⟨z5,hz5⟩:∃ z,((pg[k]).2.2.2.1 != (hs[k]).2.2.1)=z:=⟨_,rfl⟩
           have hom:o.length≤1048576:=by have:=hIo.out.2;omega
           cases hinf:DS (BM (pg[k]).2.1 (pg[k]).2.2.1 (pg[k]).2.2.2.1) o with
           | none =>
            rw [du hz hinf] at HKD;have HNf:Hid (([],16)=R):=Lib.hid (by rw [← HN2.out,← HKD];rfl);have cI:=fun {S' M} w (V:St S' M w) cl (hR:Z.R S' cl pg[k]) (vt:Value) (ht:RSl S' vt o)=>dA w V hpk cl hR vt o ht hom hinf
            clear HK HKD HA HI HA1 HI1 hIo hinf hz HN2;repeat' ((apply ZZ 19);first|(apply O ();go_step)|fail)
            refine wp_region_lit ?_;repeat' (first|(apply O ();go_step)|(apply tL ();refine An V (Aw X Ak Y) ?_;rintro v ⟨cl,rfl,hcl⟩<;>apply nZ ())|(apply sJ ();intro v L)|(apply sZ ();clear V;intro bk w V)|fail)
            have hclx:=hcl;obtain ⟨si,sn,rfl,hpR⟩:=Fj hpk hcl;clear hcl hpR;rw [show Z.agg Pg=true from rfl];apply nZ ();repeat' ((apply ZZ 20);first|(apply O ();go_step)|(apply sT ();clear V;intro w V)|fail)
            obtain ⟨T5,hT5,hst1,hpP⟩:=AC (α:=Pg) V hclx rfl;clear V;have V:=hst1;clear hst1 hclx;generalize Value.pointer (some ⟨_,0,none⟩)=pP at hpP;have hR5:=hRk.mono hT5;have hpe5:=Pt.mono (hT4.trans hT5) hpe3;repeat' ((apply ZZ 21);first|apply sK ()|(apply O ();go_step)|(apply tL ();refine An V (Aj X Ak Y) ?_;rintro v ⟨hvl,hv1⟩<;>apply nZ ())|apply sY ()|(apply sJ ();intro v L)|fail)
            refine Bm V kr ?_;clear V;intro w V;have hSS:=Cn V;apply nZ ();refine px 0 rfl (Aw (y:=pg[k]) X hpP Y) ?_;rintro v0 ⟨c0,rfl,hc0⟩;refine pd 1 rfl ?_;refine pd 2 rfl ?_;refine po 3 rfl ?_;intro K G;refine An V (Ao V X SlIn.h rfl Y Y hk0 hkn) ?_;rintro v3 hp3;simp only [Int.toNat_natCast] at hp3;refine pn G ?_;clear G K;refine po 4 rfl ?_;intro K G;refine An V (N7 (j:=k) X hp3 SlIn.h hR5 Y hgk) ?_;rintro v4 hv4;refine pn G ?_;clear G K;refine po 5 rfl ?_;intro K G;refine sc (cI w V c0 (Z.mono hSS hc0) v4 (hv4.mono hSS)) ?_;clear V;rintro v5 w ⟨rfl,V⟩;refine pn G ?_;clear G K;refine pd 6 rfl ?_;refine pd 7 rfl ?_;refine pd 8 rfl ?_;refine pd 9 rfl ?_;refine pd 10 rfl ?_;refine AK kr ?_;have hpP6:=hpP;have hpe6:=hpe5
            cases z5 with
            | true =>
             repeat' ((apply ZZ 22);first|(apply O ();go_step)|fail)
             refine AD V kr ?_;clear V;intro ops;apply nZ ();refine tx 0 rfl (As X hpP6 Y Y rfl) ?_;rintro v0 hp0;refine tx 1 rfl (Am X hp0 Y) ?_;rintro v1 ⟨rfl,hI1⟩;refine tx 2 rfl (As X hpe6 Y Y rfl) ?_;rintro v2 hp2;refine tx 3 rfl (Aj X hp2 Y) ?_;rintro v3 ⟨hv3,hv31⟩;rw [HHS.out] at hv3;refine td 4 rfl ?_;refine tx 5 rfl (Aq X hv3 rfl Y Y Af Af) ?_;rintro v5 hp5;replace hp5:=iN hp5;refine tx 6 rfl (As X hp5 Y Y rfl) ?_;rintro v6 hp6;refine tx 7 rfl (Am X hp6 Y) ?_;rintro v7 ⟨rfl,hI7⟩;refine tq 8 rfl (Ga rfl rfl hz5) ?_;refine td 9 rfl ?_;refine tz 10 rfl ?_;refine tz 11 rfl ?_;apply jQ ()
            | false =>
             repeat' ((apply ZZ 22);first|(apply O ();go_step)|fail)
             refine AD V kr ?_;clear V;intro ops;apply nZ ();refine tx 0 rfl (As X hpP6 Y Y rfl) ?_;rintro v0 hp0;refine tx 1 rfl (Am X hp0 Y) ?_;rintro v1 ⟨rfl,hI1⟩;refine tx 2 rfl (As X hpe6 Y Y rfl) ?_;rintro v2 hp2;refine tx 3 rfl (Aj X hp2 Y) ?_;rintro v3 ⟨hv3,hv31⟩;rw [HHS.out] at hv3;refine td 4 rfl ?_;refine tx 5 rfl (Aq X hv3 rfl Y Y Af Af) ?_;rintro v5 hp5;replace hp5:=iN hp5;refine tx 6 rfl (As X hp5 Y Y rfl) ?_;rintro v6 hp6;refine tx 7 rfl (Am X hp6 Y) ?_;rintro v7 ⟨rfl,hI7⟩;refine tq 8 rfl (Ga rfl rfl hz5) ?_;refine td 9 rfl ?_;refine td 10 rfl ?_;refine td 11 rfl ?_;apply jQ ()
           | some l =>
            rw [Oi hz hinf] at HKD;have hl4:∀ x∈l,Au x:=fun x hx=>by have:=(Pm hinf).2.2.1.2 x hx;unfold Au;omega
            have cI:=fun {S' M} w (V:St S' M w) cl (hR:Z.R S' cl pg[k]) (vt:Value) (ht:RSl S' vt o)=>dz w V hpk cl hR vt o l ht hom hinf hl4
            cases z5 with
            | true =>
             have HNf:Hid (([],16)=R):=Lib.hid (by rw [if_pos (bne_iff_ne.1 hz5)] at HKD;rw [← HN2.out,← HKD];rfl);clear HK HKD HA HI HA1 HI1 hIo hinf hz HN2 hl4;repeat' ((apply ZZ 19);first|(apply O ();go_step)|fail)
             refine wp_region_lit ?_;repeat' (first|(apply O ();go_step)|(apply tL ();refine An V (Aw X Ak Y) ?_;rintro v ⟨cl,rfl,hcl⟩<;>apply nZ ())|(apply sJ ();intro v L)|(apply sZ ();clear V;intro bk w V)|fail)
             have hclx:=hcl;obtain ⟨si,sn,rfl,hpR⟩:=Fj hpk hcl;clear hcl hpR;rw [show Z.agg Pg=true from rfl];apply nZ ();repeat' ((apply ZZ 20);first|(apply O ();go_step)|(apply sT ();clear V;intro w V)|fail)
             obtain ⟨T5,hT5,hst1,hpP⟩:=AC (α:=Pg) V hclx rfl;clear V;have V:=hst1;clear hst1 hclx;generalize Value.pointer (some ⟨_,0,none⟩)=pP at hpP;have hR5:=hRk.mono hT5;have hpe5:=Pt.mono (hT4.trans hT5) hpe3;repeat' ((apply ZZ 21);first|apply sK ()|(apply O ();go_step)|(apply tL ();refine An V (Aj X Ak Y) ?_;rintro v ⟨hvl,hv1⟩<;>apply nZ ())|apply sY ()|(apply sJ ();intro v L)|fail)
             refine Bm V kr ?_;clear V;intro w V;have hSS:=Cn V;apply nZ ();refine px 0 rfl (Aw (y:=pg[k]) X hpP Y) ?_;rintro v0 ⟨c0,rfl,hc0⟩;refine pd 1 rfl ?_;refine pd 2 rfl ?_;refine po 3 rfl ?_;intro K G;refine An V (Ao V X SlIn.h rfl Y Y hk0 hkn) ?_;rintro v3 hp3;simp only [Int.toNat_natCast] at hp3;refine pn G ?_;clear G K;refine po 4 rfl ?_;intro K G;refine An V (N7 (j:=k) X hp3 SlIn.h hR5 Y hgk) ?_;rintro v4 hv4;refine pn G ?_;clear G K;refine po 5 rfl ?_;intro K G;refine sc (cI w V c0 (Z.mono hSS hc0) v4 (hv4.mono hSS)) ?_;clear V;rintro v5 w ⟨T6,a6,n6,k6,hT6,rfl,hl6,V⟩;replace hSS:=hSS.trans hT6;refine pn G ?_;clear G K;refine pd 6 rfl ?_;refine pd 7 rfl ?_;refine pd 8 rfl ?_;refine pd 9 rfl ?_;refine pd 10 rfl ?_;refine AK kr ?_;have hpP6:=Pt.mono hSS hpP;have hpe6:=Pt.mono hSS hpe5;have hle6:=hle3.trans (hT4.trans (hT5.trans hSS));clear hpP hpe5 hl6;repeat' ((apply ZZ 22);first|(apply O ();go_step)|fail)
             refine AD V kr ?_;clear V;intro ops;apply nZ ();refine tx 0 rfl (As X hpP6 Y Y rfl) ?_;rintro v0 hp0;refine tx 1 rfl (Am X hp0 Y) ?_;rintro v1 ⟨rfl,hI1⟩;refine tx 2 rfl (As X hpe6 Y Y rfl) ?_;rintro v2 hp2;refine tx 3 rfl (Aj X hp2 Y) ?_;rintro v3 ⟨hv3,hv31⟩;rw [HHS.out] at hv3;refine td 4 rfl ?_;refine tx 5 rfl (Aq X hv3 rfl Y Y Af Af) ?_;rintro v5 hp5;replace hp5:=iN hp5;refine tx 6 rfl (As X hp5 Y Y rfl) ?_;rintro v6 hp6;refine tx 7 rfl (Am X hp6 Y) ?_;rintro v7 ⟨rfl,hI7⟩;refine tq 8 rfl (Ga rfl rfl hz5) ?_;refine td 9 rfl ?_;refine tz 10 rfl ?_;refine tz 11 rfl ?_;refine td 12 rfl ?_;refine AJ kr ?_;clear ops;intro w V;repeat' (first|(apply O ();go_step)|fail)
             go_ret2
             exact ⟨_,rfl,T6,(none,0,0),hle6,by rw [← HNf.out];rfl,by rw [← HNf.out];exact Mp,V.drop⟩
            | false =>
             rw [if_neg (fun h=>h (bne_eq_false_iff_eq.1 hz5))] at HKD;have HKN:=Lib.hid HKD;have hkl:k < (acc++o::os').length:=(List.getElem?_eq_some_iff.1 hgk).1;have hca:=HA.out.1;have HA2:=Lib.hid (show (acc++[l]).length=k+1∧os'.length+(k+1)=pg.length from ⟨by rw [List.length_append,hca];rfl,HA1.out.2⟩);have HSM:=Lib.hid (bg (o:=o) (l:=l) (os:=os') hca);have hck:cells.length=(acc++o::os').length:=hRk.1.trans (Nat.mul_one _);have hkc:k * 1+1≤cells.length:=by omega
             clear HK HKD HA HI HA1 hIo hinf hz hl4 hca hck;repeat' ((apply ZZ 19);first|(apply O ();go_step)|fail)
             refine wp_region_lit ?_;repeat' (first|(apply O ();go_step)|(apply tL ();refine An V (Aw X Ak Y) ?_;rintro v ⟨cl,rfl,hcl⟩<;>apply nZ ())|(apply sJ ();intro v L)|(apply sZ ();clear V;intro bk w V)|fail)
             have hclx:=hcl;obtain ⟨si,sn,rfl,hpR⟩:=Fj hpk hcl;clear hcl hpR;rw [show Z.agg Pg=true from rfl];apply nZ ();repeat' ((apply ZZ 20);first|(apply O ();go_step)|(apply sT ();clear V;intro w V)|fail)
             obtain ⟨T5,hT5,hst1,hpP⟩:=AC (α:=Pg) V hclx rfl;clear V;have V:=hst1;clear hst1 hclx;generalize Value.pointer (some ⟨_,0,none⟩)=pP at hpP;have hR5:=hRk.mono hT5;have hpe5:=Pt.mono (hT4.trans hT5) hpe3;repeat' ((apply ZZ 21);first|apply sK ()|(apply O ();go_step)|(apply tL ();refine An V (Aj X Ak Y) ?_;rintro v ⟨hvl,hv1⟩<;>apply nZ ())|apply sY ()|(apply sJ ();intro v L)|fail)
             refine Bm V kr ?_;clear V;intro w V;have hSS:=Cn V;apply nZ ();refine px 0 rfl (Aw (y:=pg[k]) X hpP Y) ?_;rintro v0 ⟨c0,rfl,hc0⟩;refine pd 1 rfl ?_;refine pd 2 rfl ?_;refine po 3 rfl ?_;intro K G;refine An V (Ao V X SlIn.h rfl Y Y hk0 hkn) ?_;rintro v3 hp3;simp only [Int.toNat_natCast] at hp3;refine pn G ?_;clear G K;refine po 4 rfl ?_;intro K G;refine An V (N7 (j:=k) X hp3 SlIn.h hR5 Y hgk) ?_;rintro v4 hv4;refine pn G ?_;clear G K;refine po 5 rfl ?_;intro K G;refine sc (cI w V c0 (Z.mono hSS hc0) v4 (hv4.mono hSS)) ?_;clear V;rintro v5 w ⟨T6,a6,n6,k6,hT6,rfl,hl6,V⟩;replace hSS:=hSS.trans hT6;refine pn G ?_;clear G K;refine pd 6 rfl ?_;refine pd 7 rfl ?_;refine pd 8 rfl ?_;refine pd 9 rfl ?_;refine pd 10 rfl ?_;refine AK kr ?_;have hpP6:=Pt.mono hSS hpP;have hpe6:=Pt.mono hSS hpe5;have hle6:=hT4.trans (hT5.trans hSS);have hRs:=RL.set (hR5.mono hSS) (cs:=[.slice a6 n6 k6]) (y:=l) ⟨_,rfl,hl6⟩ hkl;rw [HSM.out] at hRs;clear hpP hpe5 hl6 hR5 hRk hgk HSM hkl;repeat' ((apply ZZ 22);first|(apply O ();go_step)|fail)
             refine AD V kr ?_;clear V;intro ops;apply nZ ();refine tx 0 rfl (As X hpP6 Y Y rfl) ?_;rintro v0 hp0;refine tx 1 rfl (Am X hp0 Y) ?_;rintro v1 ⟨rfl,hI1⟩;refine tx 2 rfl (As X hpe6 Y Y rfl) ?_;rintro v2 hp2;refine tx 3 rfl (Aj X hp2 Y) ?_;rintro v3 ⟨hv3,hv31⟩;rw [HHS.out] at hv3;refine td 4 rfl ?_;refine tx 5 rfl (Aq X hv3 rfl Y Y Af Af) ?_;rintro v5 hp5;replace hp5:=iN hp5;refine tx 6 rfl (As X hp5 Y Y rfl) ?_;rintro v6 hp6;refine tx 7 rfl (Am X hp6 Y) ?_;rintro v7 ⟨rfl,hI7⟩;refine tq 8 rfl (Ga rfl rfl hz5) ?_;refine td 9 rfl ?_;refine td 10 rfl ?_;refine td 11 rfl ?_;refine td 12 rfl ?_;refine AJ kr ?_;clear ops;intro w V;clear hpP6 hpe6 hp0 hp2 hv3 hp5 hp6;repeat' ((apply ZZ 24);first|(apply O ();go_step)|fail)
             refine wp_region_lit ?_;repeat' (first|(with_reducible (refine An V (Ao V X SlIn.h rfl Y Y hk0 hkn) ?_;rintro v101 hp101;simp only [Int.toNat_natCast] at hp101)<;>apply nZ ())|(apply O ();go_step)|fail)
             refine BV (u:=.slice a6 n6 k6) (cs:=[.slice a6 n6 k6]) V X hp101 SlIn.h Y X rfl rfl rfl hkc ?_;clear V;intro w V;apply nZ ();repeat' (first|(apply O ();go_step)|fail)
             go_roundw
             case rel=>exact ⟨k+1,_,acc++[l],os',_,by omega,hle6,by go_num,HA2,HKN,HI1,hRs,V⟩
             case measure=>simp [intOf];omega
         ·obtain rfl:k=pg.length:=by omega
          obtain rfl:os=[]:=List.eq_nil_of_length_eq_zero (by have:=HA.out;omega);have HKD:=HK.out;rw [List.drop_length,Qo] at HKD;have HNf:Hid ((acc,0)=R):=Lib.hid (by rw [← HN2.out,← HKD];rfl);rw [List.append_nil] at hRk;obtain ⟨T7,hT7,hst1,hX⟩:=St.freeze (α:=List Int) V hRk (by rw [HA.out.1];exact HL.out.symm);clear V;have V:=hst1;clear hst1;have hle7:=hle3.trans (hT4.trans hT7);clear HA HK HI HKD hRk hT4 hT7 hpe3 hpg3 HN2;repeat' (first|(apply O ();go_step)|fail)
          go_ret2
          exact ⟨_,rfl,T7,(ao,hs.length,ko),hle7,by rw [← HNf.out];rfl,by rw [← HNf.out];exact hX,V⟩
   ·have hz3:(((CX ev.2.1 [] ev.2.2.1:Nat):Int) != 0)=true:=bne_iff_ne.2 (by omega);have HN:Hid ((([],((CX ev.2.1 [] ev.2.2.1:Nat):Int)):List (List Int)×Int)=R):=Lib.hid (by rw [← HR.out];unfold FV;rw [if_neg (by rw [hz2];simp [hl]),if_pos hck]);generalize CX ev.2.1 [] ev.2.2.1=ck at *;clear hz2 HR hl hck;repeat' (first|apply sK ()|apply sG ()|(apply O ();go_step)|(apply tL ();refine An V (Aj (y:=ev.2.1) X Ak Y) ?_;rintro vha ⟨hvha,hvha1⟩<;>apply nZ ())|(apply tL ();refine An V (Aw (y:=ev) X hpe Y) ?_;rintro v27 ⟨c27,rfl,hc27⟩<;>apply nZ ())|(apply kc ();refine sc (cH _ V vha hvha) ?_;clear V;rintro v w ⟨rfl,V⟩)|(apply kc ();refine sc (cC _ V c27 hc27) ?_;clear V;rintro v w ⟨rfl,V⟩)|apply sY ()|(apply sJ ();intro v L)|fail)
    apply gQ ()
 ·have hz1:(((pg.length:Nat):Int) != ((ev.2.1.length:Nat):Int))=true:=bne_iff_ne.2 (by omega);have HN:Hid ((([],1):List (List Int)×Int)=R):=Lib.hid (by rw [← HR.out];unfold FV;rw [if_pos (.inl hl)]);clear HR hl;repeat' (first|go_skip|apply sK ()|(apply O ();go_step)|(apply tL ();refine An V (Aj X Ak Y) ?_;rintro v ⟨hvl,hv1⟩<;>apply nZ ())|apply sY ()|(apply sJ ();intro v L)|fail)
  apply gQ ()
set_option maxRecDepth 20000 in
theorem Rj {S M} (w) (V:St S M w) (va vb) (xs:List (List Int)) (ha:RSl S va xs) (hb:RSl S vb xs) (hn:xs.length≤1000000) (hm:∀ p∈xs,p.length≤1000000):
  Ac prog 21 [va,vb] w fun v w'=>v=.bool true∧St S M w':=by
 unfold Ac;go_enter func21,ntmps21;repeat' (first|(apply tB ();refine Ag V (CY rfl rfl) ?_<;>apply nZ ())|(apply O ();go_step)|apply sY ()|fail)
 go_loopw [5,6] (fun u5 _ wr=>∃ i:Nat,i≤xs.length∧u5=.int .i64 (i:Int)∧St S M wr) (fun v _ _=>xs.length - (intOf v).toNat)
 case atStart=>exact ⟨0,Nat.zero_le _,rfl,V⟩
 case round =>
  clear V;obtain ⟨i,hi,rfl,V⟩:=hrel;by_cases hlt:i < xs.length
  ·have hmi:=hm _ (List.getElem_mem hlt);repeat' ((apply ZZ 6);first|(apply O ();go_step)|apply sY ()|fail)
   refine Bm V kr ?_;clear V;intro w V;have hSS:=Cn V;apply nZ ();refine pd 0 rfl ?_;refine pd 1 rfl ?_;refine px 2 rfl (Aq X ha rfl Y Y Af Af) ?_;rintro v2 hp2;replace hp2:=iN hp2;refine px 3 rfl (Aj X hp2 Y) ?_;rintro v3 ⟨hv3,hv31⟩;replace hv3:RSl S v3 xs[i]:=hv3;refine pd 4 rfl ?_;refine pd 5 rfl ?_;refine pd 6 rfl ?_;refine px 7 rfl (Aq X hb rfl Y Y Af Af) ?_;rintro v7 hp7;replace hp7:=iN hp7;refine px 8 rfl (Aj X hp7 Y) ?_;rintro v8 ⟨hv8,hv81⟩;replace hv8:RSl S v8 xs[i]:=hv8;refine pd 9 rfl ?_;refine pt 10 rfl (CY rfl rfl) ?_;refine AK kr ?_;repeat' (first|(apply O ();go_step)|fail)
   go_loopw [6] (fun u6 wr=>∃ j:Nat,j≤(xs[i]).length∧u6=.int .i64 (j:Int)∧St S M wr) (fun v _=>(xs[i]).length - (intOf v).toNat)
   case atStart=>exact ⟨0,Nat.zero_le _,rfl,V⟩
   case round =>
    clear V;obtain ⟨j,hj,rfl,V⟩:=hrel;by_cases hjt:j < (xs[i]).length
    ·repeat' ((apply ZZ 11);first|(apply O ();go_step)|(apply tL ();refine An V (Aj (y:=xs[i]) X Ak Y) ?_;rintro vf ⟨hvf,hvf1⟩<;>apply nZ ())|apply sY ()|(apply sJ ();intro v L)|fail)
     refine Bm V kr ?_;clear V;intro w V;have hSS:=Cn V;apply nZ ();refine pd 0 rfl ?_;refine pd 1 rfl ?_;refine px 2 rfl (Aq X ha rfl Y Y Af Af) ?_;rintro v2 hp2;replace hp2:=iN hp2;refine px 3 rfl (Aj X hp2 Y) ?_;rintro v3 ⟨hv3,hv31⟩;replace hv3:RSl S v3 xs[i]:=hv3;refine pd 4 rfl ?_;refine px 5 rfl (Aq X hv3 rfl Y Y Af Af) ?_;rintro v5 hp5;replace hp5:=iN hp5;refine px 6 rfl (Am X hp5 Y) ?_;rintro v6 ⟨rfl,hI6⟩;refine pd 7 rfl ?_;refine pd 8 rfl ?_;refine px 9 rfl (Aq X hb rfl Y Y Af Af) ?_;rintro v9 hp9;replace hp9:=iN hp9;refine px 10 rfl (Aj X hp9 Y) ?_;rintro v10 ⟨hv10,hv101⟩;replace hv10:RSl S v10 xs[i]:=hv10;refine pd 11 rfl ?_;refine px 12 rfl (Aq X hv10 rfl Y Y Af Af) ?_;rintro v12 hp12;replace hp12:=iN hp12;refine px 13 rfl (Am X hp12 Y) ?_;rintro v13 ⟨rfl,hI13⟩;refine pt 14 rfl (CY rfl rfl) ?_;apply jH ()
    ·obtain rfl:j=(xs[i]).length:=by omega
     repeat' (first|(apply O ();go_step)|(apply tL ();refine An V (Aj (y:=xs[i]) X Ak Y) ?_;rintro vf ⟨hvf,hvf1⟩<;>apply nZ ())|apply sY ()|(apply sJ ();intro v L)|fail)
     apply gM ()
  apply gS ()
end Go.Proofs.YtmmbidoldegemaaGreatDoor
namespace Go.Proofs.YtmmbidoldegemaaGreatDoor
open Go.RowKit Go.Sl Go.Srt Go.Proofs.Tryz
theorem VV {Lqq a b ps} (h:H0 Lqq a b ps):∀ r∈ps,GF Lqq r:=fun r hr=>by
 obtain ⟨h1,h2,_,h4⟩:=h.2 r hr;exact ⟨h1,h2,h4⟩
theorem VU {Lqq a b ps} (h:H0 Lqq a b ps):ps.Nodup:=h.1.imp fun {a b} hab e=>by
 subst e;unfold fS at hab;omega
theorem TR {S M} (w) (V:St S M w) (hG:Bu S) (m) (hm:m.l.length=16) (vl log) (hl:RSl S vl log) (hlen:log.length≤1000) (hok:∀ e∈log,JD e) (vr rs) (hr:RSl S vr rs) (hrl:rs.length≤1000) (hi:∀ r∈rs,GF log r) (hn:rs.Nodup):
  Ac prog 16 [Cu m,vl,vr] w fun v w'=>∃ S' cs,S.Le S'∧v=.tuple #[.agg cs.toArray,.int .i64 0]∧Z.R S' cs (EM m log rs)∧St S' M w' :=
 (V9 w V hG m hm vl log hl hlen hok vr rs hr (by omega)).mono fun v w' ⟨S',hS,hk,h⟩=>by
  rw [V7 rs [] hi hn (fun r _=>List.not_mem_nil)] at h;obtain ⟨cs,h1,h2⟩:=h;exact ⟨S',cs,hS,h1,h2,hk⟩
theorem R8 {log} (h:∀ e∈log,JD e) (r):(FB log r).2.2.2.1.length≤1000000:=by
 unfold FB
 cases he:log[r.1.toNat]? with
 | none=>exact Nat.zero_le _
 | some e =>
  have h1:=(h e (List.mem_of_getElem? he)).2.1;have h2:=If (FM e) r.2.toNat;have h3:(FM e).length=e.2.2.1.length:=by unfold FM;exact G9 _ _
  show (Bk (FM e) r.2.toNat).length≤_;omega
abbrev Xo (S:Ad) (M:List J) (r:List Pg×List Ev) (v:Value) (w:World):Prop :=
 ∃ S' sp sl:_,S.Le S'∧v=.tuple #[Ar sp,Ar sl]∧RSl S' (Ar sp) r.1∧RSl S' (Ar sl) r.2∧St S' M w
def ja:Prop:=∀ {S:Ad} {M:List J} (w:World) (_:St S M w) (vl:Value) (l:List Rn) (_:RSl S vl l) (_:l.length≤1048576),Ac prog 15 [vl] w (Xo S M (F2 l))
def l9:Prop:=∀ {S:Ad} {M:List J} (w:World) (_:St S M w) (_:Bu S),Ac prog 9 [] w fun v w'=>v=.bool true∧St S M w'
theorem wN {S cs y} (hR:Z.R S cs y):FN y:=⟨hR.2.1.1,hR.2.2.2.1.1,hR.2.2.2.2.2.1.2,hR.2.2.2.2.2.2.2.1.1,hR.2.2.2.2.2.2.2.2.2.1.1,hR.2.2.2.2.2.2.2.2.2.2.2.1.2⟩
theorem vI {α:Type} [Z α] {P:α→Prop} {S v xs} (h:RSl S v xs) (hP:∀ (cs:List Value) (x:α),Z.R S cs x→P x):∀ x∈xs,P x:=fun x hx=>by
 obtain ⟨i,hi,rfl⟩:=List.getElem_of_mem hx;obtain ⟨cs,hc⟩:=Lx h hi;exact hP cs _ hc
theorem wl {S cs m Lqq i} (hR:Z.R S cs (EM m Lqq i)) (hok:∀ e∈Lqq,JD e) (hL:Lqq.length≤1000) (hi:i.length≤1000):Ox (EM m Lqq i):=by
 obtain ⟨hl,h1,h2⟩:=hR;obtain ⟨hl2,h3,h4⟩:=h2;obtain ⟨hl3,h5,h6⟩:=h4;obtain ⟨v1,e1,i1⟩:=h3;obtain ⟨v2,e2,i2⟩:=h5;refine ⟨fun h hh=>⟨vI (P:=FN) i1 (fun cs x hx=>wN hx) h hh,?_⟩,fun p L=>?_,?_,?_⟩
 ·obtain ⟨e,he,rfl⟩:=List.mem_map.1 hh;show ((e.2.2.1.length:Nat):Int)≤1000;have:=(hok e he).2.1;omega
 ·obtain ⟨a,b,c⟩:=vI (P:=fun p:Pn=>Au p.1∧Au p.2.1∧Au p.2.2.1) i2 (fun cs x hx=>⟨hx.2.1.2,hx.2.2.2.1.2,hx.2.2.2.2.2.1.2⟩) p L;refine ⟨a,b,c,?_⟩;obtain ⟨r,_,rfl⟩:=List.mem_map.1 L;have:=R8 hok r;omega
 ·show (Lqq.map AE).length≤_;rw [List.length_map];omega
 ·show (i.map (FB Lqq)).length≤_;rw [List.length_map];omega
theorem wW {pgs Lqq} (h:vG (pgs,Lqq)):∀ p∈pgs,Fs p:=fun p L=>by
 obtain ⟨k,hk,rfl⟩:=List.getElem_of_mem L;have hl:=h.1;simp only at hl;have hk':k < Lqq.length:=by omega
 exact (h.2 k pgs[k] Lqq[k] (List.getElem?_eq_getElem hk) (List.getElem?_eq_getElem hk')).2.2.2.2
theorem wG {pgs Lqq} (h:vG (pgs,Lqq)):∀ e∈Lqq,∀ t∈e.2.2.1,(0:Int)≤t∧t≤3:=fun e he=>by
 obtain ⟨k,hk,rfl⟩:=List.getElem_of_mem he;have hl:=h.1;simp only at hl;have hk':k < pgs.length:=by omega
 exact vJ (h.2 k pgs[k] Lqq[k] (List.getElem?_eq_getElem hk') (List.getElem?_eq_getElem hk)).2.2.2.1
theorem wA {S M} (w) (V:St S M w) (hG:Bu S) {m Lqq i pgs K} (cs) (hR:Z.R S cs (EM m Lqq i)) (hb:vG (pgs,Lqq)) (hok:∀ e∈Lqq,JD e) (hL:Lqq.length≤1000) (hi:i.length≤1000) (vp) (L:RSl S vp pgs) (G:FV (EM m Lqq i) pgs=(K,0)):
  Ac prog 18 [.agg cs.toArray,vp] w fun v w'=>∃ S' so,S.Le S'∧v=.tuple #[Ar so,.int .i64 0]∧RSl S' (Ar so) K∧St S' M w' :=
 (Sm w V hG cs _ hR (wl hR hok hL hi) (by show (Lqq.map AE).length≤_;rw [List.length_map];omega) (by show (i.map (FB Lqq)).length≤_;rw [List.length_map];omega) vp pgs L (wW hb)).mono fun v w' h=>by rw [G] at h;exact h
theorem wK {S M} (w) (V:St S M w) (hG:Bu S) {m Lqq i} (cs) (hR:Z.R S cs (EM m Lqq i)) (hv:∀ e∈Lqq,∀ t∈e.2.2.1,(0:Int)≤t∧t≤3) (hok:∀ e∈Lqq,JD e) (hL:Lqq.length≤1000) (hil:i.length≤1000) (hi:∀ r∈i,GF Lqq r) (hn:i.Nodup):
  Ac prog 19 [.agg cs.toArray,L4 (E8 m Lqq)] w fun v w'=>v=.int .i64 0∧St S M w' :=
 (Ll w V hG cs _ hR (wl hR hok hL hil) (E8 m Lqq) (by rw [← Yw];exact LD _ _)).mono fun v w' h=>by rw [(wz hv hi hn).2] at h;exact h
theorem wM {S M} (w) (V:St S M w) {m Lqq i ks} (cs) (hR:Z.R S cs (EM m Lqq i)) (hi:∀ r∈i,GF Lqq r) (hil:i.length≤1000) (vk) (hk:RSl S vk ks) (hkl:ks.length≤1000):
  Ac prog 13 [.agg cs.toArray,vk] w fun v w'=>∃ S' cs',S.Le S'∧v=.agg cs'.toArray∧Z.R S' cs' (EM m Lqq (i.filter fun r=>decide (r∈ks)))∧St S' M w' :=
 (PY w V cs _ hR vk ks hk (by show (i.map (FB Lqq)).length≤_;rw [List.length_map];omega) (by omega)).mono fun v w' h=>by rw [wV hi] at h;exact h
theorem wo {Lqq} {i j:List (Int×Int)} (hi:∀ r∈i,GF Lqq r) (hj:∀ r∈j,r∈i) {k:Nat} {e} (he:Lqq[k]? = some e) {o o'} (ho:(LF (Lqq.map AE) (i.map (FB Lqq)))[k]? = some o) (ho':(LF (Lqq.map AE) (j.map (FB Lqq)))[k]? = some o'):uD o' o:=by
 obtain ⟨y,a1,a2,a3⟩:=vK hi he;obtain ⟨y',b1,b2,b3⟩:=vK (fun r hr=>hi r (hj r hr)) he;rw [ho] at a1;rw [ho'] at b1;obtain rfl:=Option.some.inj a1;obtain rfl:=Option.some.inj b1;refine ⟨by omega,fun q=>?_⟩;rw [b3 q,a3 q];by_cases h:((k:Int),(q:Int))∈j
 ·rw [if_pos h,if_pos (hj _ h)];exact .inr rfl
 ·rw [if_neg h,vQ];by_cases hq:q < e.2.2.1.length
  ·rw [if_pos hq];exact .inl rfl
  ·rw [if_neg hq];refine .inr ?_;split
   ·rw [List.getD_eq_getElem?_getD,List.getElem?_eq_none (by omega)];rfl
   ·rfl
theorem wv {m pgs Lqq} (hb:vG (pgs,Lqq)) {i j} (hi:∀ r∈i,GF Lqq r) (hn:i.Nodup) (hj:∀ r∈j,r∈i) (hnj:j.Nodup):
  ∃ K K',FV (EM m Lqq i) pgs=(K,0)∧FV (EM m Lqq j) pgs=(K',0)∧K.length=Lqq.length∧K'.length=Lqq.length∧∀ (k:Nat) (h:k < K.length) (h':k < K'.length),uD K'[k] K[k]∧K[k].length≤8:=by
 obtain ⟨K,a1,a2,a3⟩:=vU (m:=m) hb hi hn;obtain ⟨K',b1,b2,b3⟩:=vU (m:=m) hb (fun r hr=>hi r (hj r hr)) hnj;refine ⟨K,K',a1,b1,a2,b2,fun k h h'=>?_⟩;have hl:=hb.1;simp only at hl;have hk1:k < Lqq.length:=by omega
 have hk2:k < pgs.length:=by omega
 have he:=List.getElem?_eq_getElem hk1;obtain ⟨o,l,c1,c2,c3,c4⟩:=a3 k _ _ (List.getElem?_eq_getElem hk2) he;obtain ⟨o',l',d1,d2,d3,_⟩:=b3 k _ _ (List.getElem?_eq_getElem hk2) he;rw [List.getElem?_eq_getElem h] at c2;rw [List.getElem?_eq_getElem h'] at d2;rw [Option.some.inj c2,Option.some.inj d2];have h8:=(hb.2 k _ _ (List.getElem?_eq_getElem hk2) he).2.2.1;exact ⟨wa (wo hi hj he c1 d1) d3 c3,by rw [c4.1];exact h8⟩
end Go.Proofs.YtmmbidoldegemaaGreatDoor
