/- Part 43 of the proof that the law of the last part holds; no conditions. -/
import Derived.Test.YtmmbidoldegemaaGreatDoorZ41
set_option linter.unusedSimpArgs false
set_option linter.unusedVariables false
set_option maxRecDepth 8000
set_option maxHeartbeats 8000000
namespace Go.Proofs.YtmmbidoldegemaaGreatDoor
open Go.RowKit Go.Sl
abbrev fY (S:Ac) (M:List Chunk) (r:List (List Int)×Int) (v:Value) (w:World):Prop:=∃ S' so,S.Le S'∧v=.tuple #[Ar so,.int .i64 r.2]∧RSl S' (Ar so) r.1∧St S' M w
theorem Lx {S:Ac}:RSl S (.slice none 0 0) ([]:List (List Int)):=.inl ⟨none,0,rfl,rfl,by unfold maxLen;omega⟩
theorem Ro {S M} (w:World) (hst:St S M w) {p:Pg} (hb:FP p) (cl:List Value) (hR:Rep.R S cl p) (vt:Value) (took:List Int) (ht:RSl S vt took) (hm:took.length≤1048576) :
  Ad Tryz.prog 48 [.agg cl.toArray,vt] w fun v w'=>Oa S M (Dv (Bx p.2.1 p.2.2.1 p.2.2.2.1) took) v w':=by
 obtain ⟨si,sn,rfl,hp⟩:=EQ hb hR;have hln:=hp.ln;exact av w hst _ _ _ _ p.1 p.2.1 hp.i hp.n (by omega) hp.r hp.q vt took ht hm
theorem au {S M} (w:World) (hst:St S M w) {p:Pg} (hb:FP p) (cl:List Value) (hR:Rep.R S cl p) (vt:Value) (took:List Int) (ht:RSl S vt took) (hm:took.length≤1048576) (hi:Dv (Bx p.2.1 p.2.2.1 p.2.2.2.1) took=none) :
  Ad Tryz.prog 48 [.agg cl.toArray,vt] w fun v w'=>v=.tuple #[.slice none 0 0,.bool false]∧St S M w' :=
 (Ro w hst hb cl hR vt took ht hm).mono fun v w' h=>by rw [hi] at h;exact h
theorem aq {S M} (w:World) (hst:St S M w) {p:Pg} (hb:FP p) (cl:List Value) (hR:Rep.R S cl p) (vt:Value) (took l:List Int) (ht:RSl S vt took) (hm:took.length≤1048576) (hi:Dv (Bx p.2.1 p.2.2.1 p.2.2.2.1) took=some l) (hl:∀ x∈l,Au x) :
  Ad Tryz.prog 48 [.agg cl.toArray,vt] w fun v w'=>∃ S' a n c,S.Le S'∧v=.tuple #[.slice a n c,.bool true]∧RSl S' (.slice a n c) l∧St S' M w' :=
 (Ro w hst hb cl hR vt took ht hm).mono fun v w' h=>by
  rw [hi] at h;obtain ⟨u,rfl,hst⟩:=h;obtain ⟨S2,hS2,hst2,hx⟩:=St.freeze (α:=Int) hst (OT hl) rfl;obtain ⟨a,n,c,rfl⟩:=KH hx;exact ⟨S2,a,n,c,hS2,rfl,hx,hst2⟩
theorem M8 {P:Program} {S:Ac} {M:List Chunk} {l:List Value} {T F:TypeId} {x:Operand} {zero:List Value} {bb:Nat} {v p:Value} {j k n:Nat} {c:List Value} {xs:List (List Int)} {y:List Int} (hx:Ai l x=p) (hp:Jb v p (j * 1)) (hk:M[k]? = some (.sl v F 1 n c)) (hR:RL S c xs)
  (hT:Ty P T false 1 zero bb) (hy:xs[j]? = some y):∃ u,RSl S u y∧Qt P l (.load T x) S M u:=by
 obtain ⟨u,⟨cs,rfl,w0,h,hr⟩,q⟩:=BP (α:=List Int) hx hp hk hR hT hy;subst h;exact ⟨_,hr,q⟩
set_option maxRecDepth 20000 in
theorem Rh {S M} (w:World) (hst:St S M w) (hG:Bo S) (cs:List Value) (ev:Br) (hR:Rep.R S cs ev) (ok:Nz ev) (hnh:ev.2.1.length≤100000) (hnp:ev.2.2.1.length≤100000) (vp:Value) (pg:List Pg) (hpg:RSl S vp pg) (hpb:∀ p∈pg,FP p) :
  Ad Tryz.prog 18 [.agg cs.toArray,vp] w (fY S M (Fu ev pg)):=by
 unfold Ad;obtain ⟨R,hRR⟩:∃ R,Fu ev pg=R:=⟨_,rfl⟩
 rw [hRR];have HR:=Lib.hid hRR;clear hRR;have hone:=Rep.one hR;go_enter Tryz.func18,Tryz.ntmps18;repeat' ((apply Z1 ());first|(apply gK ();go_step)|(apply sC ();clear hst;intro bx w hst)|fail)
 obtain ⟨S1,hS1,hst1,hpe⟩:=AC (α:=Br) hst hR (Rep.len hR);clear hst;have hst:=hst1;clear hst1;generalize Value.pointer (some ⟨_,0,none⟩)=pE at hpe;have hpg1:=hpg.mono hS1;have hG1:=Bo.mono hS1 hG;have hR1:=Rep.mono hS1 hR;clear hR hpg hG;have cC:=fun {M:List Chunk} (w:World) (hst:St S1 M w) (cl:List Value) (hR:Rep.R S1 cl ev)=>RE w hst hG1 cl ev hR ok
 have cH:=fun {M:List Chunk} (w:World) (hst:St S1 M w) (va:Value) (ha:RSl S1 va ev.2.1)=>Qx w hst va ev.2.1 ha (by omega)
 by_cases hl:pg.length=ev.2.1.length
 ·have hz1:(((pg.length:Nat):Int) != ((ev.2.1.length:Nat):Int))=false:=bne_eq_false_iff_eq.2 (by omega)
  cases hz2:ev.2.1.any Dr with
  | true =>
   have HN:Hid ((([],1):List (List Int)×Int)=R):=Lib.hid (by rw [← HR.out];unfold Fu;rw [if_pos (.inr hz2)]);rw [hz2] at cH;clear hz2 HR hl;repeat' (first|apply sK ()|apply sG ()|(apply gK ();go_step)|(with_reducible refine kL ?_;refine An hst (Ae (y:=ev.2.1) Ab Ak Aa) ?_;rintro vha ⟨hvha,hvha1⟩<;>(try refine nY ?_))|(apply kc ();refine sc (cH _ hst vha hvha) ?_;clear hst;rintro v w ⟨rfl,hst⟩)|apply sY ()|(apply sJ ();intro v hp)|fail)
   apply eS ()
  | false =>
   rw [hz2] at cH;by_cases hck:CJ ev.2.1 [] ev.2.2.1=0
   ·have HN:Hid (U5 (F9 pg ev.2.1 (KP ev.2.1 ev.2.2.1) [])=R):=Lib.hid (by rw [← HR.out];unfold Fu;rw [if_neg (by rw [hz2];simp [hl]),if_neg (by rw [hck];simp)]);have HL:=Lib.hid hl;have HB:=Lib.hid (eJ hz2 ok);have HP:=Lib.hid (fun es k hk he=>Xh hck es k hk he);rw [hck] at cC;clear hz2 HR hl hck;have hpt:=ok.pt;repeat' ((apply Z6 ());first|apply sK ()|apply sG ()|(apply gK ();go_step)|(with_reducible refine kL ?_;refine An hst (Ae (y:=ev.2.1) Ab Ak Aa) ?_;rintro vha ⟨hvha,hvha1⟩<;>(try refine nY ?_))|(with_reducible refine kL ?_;refine An hst (Av (y:=ev) Ab hpe Aa) ?_;rintro v27 ⟨c27,rfl,hc27⟩<;>(try refine nY ?_))|(apply kc ();refine sc (cH _ hst vha hvha) ?_;clear hst;rintro v w ⟨rfl,hst⟩)|(apply kc ();refine sc (cC _ hst c27 hc27) ?_;clear hst;rintro v w ⟨rfl,hst⟩)|apply sY ()|(apply sJ ();intro v hp)|fail)
    clear cC cH hz1 hc27 hvha;replace hst:=hst.nil 52 1;repeat' (first|(apply gK ();go_step)|(with_reducible refine kL ?_;refine An hst (Ae (y:=ev.2.1) Ab Ak Aa) ?_;rintro vh ⟨hvh,hvh1⟩<;>(try refine nY ?_))|apply sY ()|(apply sJ ();intro v hp)|fail)
    have okh:=Ia hvh;generalize hhs:ev.2.1=hs at *;have HHS:=Lib.hid hhs;clear hhs
    go_loopw [7,35] (fun u7 u35 wr=>∃ (i:Nat) (T:Ac) (es:List BD) (ao:Option Addr) (ko:Nat),i≤hs.length∧S1.Le T∧u7=.slice ao i ko∧u35=.int .i64 (i:Int)∧Hid (es.map (·.xs)=DN (hs.take i))∧Hid (∀ e∈es,∀ x∈e.xs,Au x)∧St T (.sl (.slice ao i ko) 52 1 i (es.map BD.v)::(es.map BC++M)) wr) (fun _ v _=>hs.length - (intOf v).toNat)
    case atStart=>exact ⟨0,S1,[],none,0,Nat.zero_le _,Ac.Le.refl S1,rfl,rfl,Lib.hid rfl,Lib.hid (fun e he=>(by cases he)),hst⟩
    case round =>
     clear hst;obtain ⟨i,T,es,ao,ko,hi,hT,rfl,rfl,HE,HI,hst⟩:=hrel;have hone7:=Bh (k:=0) hst rfl;by_cases hlt:i < hs.length
     ·have hvT:=hvh.mono hT;have kh:=okh _ (List.getElem_mem hlt);obtain ⟨n,hn,hn8⟩:=HB.out _ (List.getElem_mem hlt);have hrep:(hs[i]).2.2.1.toNat=n:=by omega
      have HSN:=Lib.hid ((Sr hlt).trans (by rw [hrep,← HE.out]));have HPM:=Lib.hid (fun e a=>UP a es e M);have hcl0:(es.map BD.v).length=i:=(Go.Sl.St.get hst (k:=0) rfl).1.trans (Nat.mul_one _);clear HE hrep;generalize es.map BC++M=N at *;repeat' ((apply Z9 ());first|(apply gK ();go_step)|fail)
      refine wp_region_lit ?_;repeat' (first|apply sP ()|(apply sJ ();intro v hp)|(apply sZ ();clear hst;intro bk w hst)|fail)
      refine CN hst rfl BoxIn.h Aa (x0:=hs[i]) (cs:=F6 hs[i]) Ab (CS kh) rfl ?_;clear hst;intro w hst;(try refine nY ?_);repeat' ((apply V8 ());first|(apply gK ();go_step)|fail)
      obtain ⟨T1,hT1,hst1,hph⟩:=AC (α:=Hd) hst (CS kh) (Rep.len (CS (S:=S1) kh));clear hst;have hst:=hst1;clear hst1;generalize Value.pointer (some ⟨_,0,none⟩)=pH at hph;repeat' (first|(apply gK ();go_step)|fail)
      refine AA (vs:=[.int .i64 (-1)]) hst Aa Aa rfl rfl (by simp [Value.cells]) rfl (by omega) (by omega) ?_;clear hst;intro x40 w hst0;obtain ⟨T2,hT2,hst,hX2⟩:=St.freeze (α:=Int) (xs:=[-1]) hst0 (Md (by unfold Au;omega) RL.nil) rfl;clear hst0;(try refine nY ?_)
      have cRp:∀ {M:List Chunk} (w:World) (hst:St T2 M w),Ad Tryz.prog 47 [x40,.int .i64 (hs[i]).2.2.1] w fun v w'=>∃ ad cap,v=.slice ad n cap∧St T2 (.sl (.slice ad n cap) 3 1 n (cF Bf (List.replicate n (-1)))::M) w':=fun {M} w hst=>by
       rw [hn];exact W8 w hst x40 hX2 n hn8
      have hph2:=Pt.mono hT2 hph;clear hph;repeat' (first|(apply kc ();refine sc (cRp _ hst) ?_;clear hst;rintro v w ⟨ad,cap,rfl,hst⟩)|(with_reducible refine kL ?_;refine An hst (Am Ab Ak Aa) ?_;rintro v ⟨rfl,hI⟩<;>(try refine nY ?_))|(apply sJ ();intro v hp)|fail)
      refine AA (vs:=[(.slice ad n cap)]) hst Aa Aa rfl rfl (by simp [Value.cells]) rfl (by omega) (by omega) ?_;clear hst;intro u w hst;refine nY ?_;refine AG (j:=0) hst Ab Ab SlIn.h rfl Aa Aa Aa (by simp [Value.cells,Value.oneCell']) (by omega) (by omega) (by decide) ?_;clear hst;intro v' w hst;refine nY ?_;(try replace hst:=nH hst);replace hst:=hst.drop;obtain ⟨ay,cy,rfl⟩:=Go.Sl.sl_formk (k:=1) hst rfl
      have hstE:St T2 (BC ⟨(0,0),ad,cap,List.replicate n (-1)⟩::.sl (.slice ay (i+1) cy) 52 1 (i+1) ((es++[(⟨(0,0),ad,cap,List.replicate n (-1)⟩:BD)]).map BD.v)::N) w:=by
       rw [List.map_append];show St T2 (.sl (.slice ad (List.replicate n (-1:Int)).length cap) 3 1 (List.replicate n (-1:Int)).length (cF Bf (List.replicate n (-1)))::.sl (.slice ay (i+1) cy) 52 1 (i+1) (es.map BD.v++[.slice ad (List.replicate n (-1:Int)).length cap])::N) w;rw [List.length_replicate];exact hst
      clear hst;have hst:=hstE;clear hstE;(try refine nY ?_);repeat' (first|(apply gK ();go_step)|fail)
      go_roundw
      case rel=>exact ⟨i+1,T2,es++[⟨(0,0),ad,cap,List.replicate n (-1)⟩],ay,cy,by omega,hT.trans (hT1.trans hT2),rfl,by go_num,Lib.hid (by rw [HSN.out,List.map_append];rfl),Lib.hid (aB HI.out n),hst.perm (HPM.out _ _)⟩
      case measure=>simp [intOf];omega
     ·obtain rfl:i=hs.length:=by omega
      rw [List.take_length] at HE;have hleT:=hS1.trans hT;have hpeT:=Pt.mono hT hpe;have hpgT:=hpg1.mono hT;clear hvh hpe hpg1 hG1 hR1 hone hi hlt okh;repeat' (first|(apply gK ();go_step)|(with_reducible refine kL ?_;refine An hst (Ae (y:=ev.2.2.1) Ab Ak Aa) ?_;rintro vq ⟨hvq,hvq1⟩<;>(try refine nY ?_))|apply sY ()|(apply sJ ();intro v hp)|fail)
      generalize hps:ev.2.2.1=ps at *;clear hps
      go_loopw [50] (fun u50 wr=>∃ (i:Nat) (T':Ac) (es:List BD),i≤ps.length∧T.Le T'∧u50=.int .i64 (i:Int)∧Hid (es.map (·.xs)=(ps.take i).foldl FW (DN hs))∧Hid (∀ e∈es,∀ x∈e.xs,Au x)∧St T' (.sl (.slice ao hs.length ko) 52 1 hs.length (es.map BD.v)::(es.map BC++M)) wr) (fun v _=>ps.length - (intOf v).toNat)
      case atStart=>exact ⟨0,T,es,Nat.zero_le _,Ac.Le.refl T,rfl,HE,HI,hst⟩
      case round =>
       clear hst HE HI;rename_i es0;obtain ⟨i,T',es,hi,hT',rfl,HE,HI,hst⟩:=hrel;have hone7:=Bh (k:=0) hst rfl;by_cases hlt:i < ps.length
       ·have hvT:=hvq.mono hT';obtain ⟨l1,e,l2,rfl,hj,hq0,hq1,hset⟩:=HP.out es i hlt HE.out;have hpi:=hpt _ (List.getElem_mem hlt);have hst0:=hst.perm (NZ _ l1 l2 e M).symm;have hcl0:((l1++e::l2).map BD.v).length=hs.length:=(Go.Sl.St.get hst (k:=0) rfl).1.trans (Nat.mul_one _);obtain ⟨ek,ea,ec,exs⟩:=e;simp only at hq1;have HPM:=Lib.hid (fun e a=>NZ a l1 l2 e M);have hcell:=aW l1 ⟨ek,ea,ec,exs⟩ l2;have HCV:=Lib.hid (fun x=>VN l1 ek ea ec exs l2 (ps[i]).2.1.toNat x);have HEN:=Lib.hid (hset ⟨ek,ea,ec,exs.set (ps[i]).2.1.toNat (ps[i]).2.2.1⟩ rfl);have HIN:=Lib.hid (aA HI.out hpi.2.2.1 (q:=(ps[i]).2.1.toNat));have hjn:(ps[i]).1.toNat < hs.length:=by rw [← hcl0,List.length_map,List.length_append,List.length_cons];omega
        have hj0:0≤(ps[i]).1:=by omega
        have ejt:(ps[i]).1.toNat=l1.length:=by omega
        have hclen:l1.length * 1+1≤((l1++⟨ek,ea,ec,exs⟩::l2).map BD.v).length:=by rw [List.length_map,List.length_append,List.length_cons];omega
        clear hst HE HI hset hj;have hst:St T' (.sl (.slice ea exs.length ec) 3 1 exs.length (cF Bf exs)::.sl (.slice ao hs.length ko) 52 1 hs.length ((l1++⟨ek,ea,ec,exs⟩::l2).map BD.v)::((l1++l2).map BC++M)) _:=hst0;clear hst0;generalize (l1++l2).map BC++M=N at *;generalize (l1++⟨ek,ea,ec,exs⟩::l2).map BD.v=C at *;repeat' ((apply fd ());first|(apply gK ();go_step)|fail)
        refine wp_region_lit ?_;repeat' (first|(with_reducible refine kL ?_;refine An hst (Av Ab Ak Aa) ?_;rintro v ⟨cl,rfl,hcl⟩<;>(try refine nY ?_))|(apply sJ ();intro v hp)|(apply sZ ();clear hst;intro bk w hst)|fail)
        have hclx:=hcl;obtain ⟨sx,rfl,hx0,hx1,hx2,hx3⟩:=BF hcl;clear hcl;rw [show Rep.agg Pn=true from rfl];(try refine nY ?_);repeat' ((apply Lr ());first|(apply gK ();go_step)|(apply sT ();clear hst;intro w hst)|fail)
        obtain ⟨T1,hT1,hst1,hpq⟩:=AC (α:=Pn) hst hclx rfl;clear hst;have hst:=hst1;clear hst1 hclx hx0;generalize Value.pointer (some ⟨_,0,none⟩)=pQ at hpq;have honeE:=Bh (k:=0) hst rfl;refine AN hst kr ?_;clear hst;intro w hst;have hSS:=Bk hst;(try refine nY ?_);refine pd 0 rfl ?_;refine px 1 rfl (Ah Ab hpq Aa Aa rfl) ?_;rintro v1 hp1;refine px 2 rfl (Am Ab hp1 Aa) ?_;rintro v2 ⟨rfl,hI2⟩;refine px 5 rfl (Ah Ab hpq Aa Aa rfl) ?_;rintro v5 hp5;refine px 6 rfl (Am Ab hp5 Aa) ?_;rintro v6 ⟨rfl,hI6⟩;refine px 7 rfl (Ah Ab hpq Aa Aa rfl) ?_;rintro v7 hp7;refine px 8 rfl (Am Ab hp7 Aa) ?_;rintro v8 ⟨rfl,hI8⟩;refine po 3 rfl ?_;intro K hK;refine An hst (Aq hst Ab SlIn.h rfl Aa Aa hj0 hjn) ?_;rintro v3 hp3;rw [ejt] at hp3;refine pn hK ?_;clear hK K;refine po 4 rfl ?_;intro K hK;refine Ag hst (Gu Ab hp3 SlIn.h Aa hcell hclen) ?_;refine pn hK ?_;clear hK K;refine po 9 rfl ?_;intro K hK;refine An hst (Aq hst Ab SlIn.h rfl Aa Aa hq0 hq1) ?_;rintro v9 hp9;refine pn hK ?_;clear hK K;refine po 10 rfl ?_;intro K hK;refine YI (xs:=exs) hst Ab hp9 SlIn.h Aa Ab hq1 ?_;clear hst;intro w hst;(try replace hst:=nH hst);refine pn hK ?_;clear hK K;refine Az kr ?_
        have hstE:St T1 (BC ⟨ek,ea,ec,exs.set (ps[i]).2.1.toNat (ps[i]).2.2.1⟩::.sl (.slice ao hs.length ko) 52 1 hs.length ((l1++⟨ek,ea,ec,exs.set (ps[i]).2.1.toNat (ps[i]).2.2.1⟩::l2).map BD.v)::N) w:=by
         rw [HCV.out];show St T1 (.sl (.slice ea (exs.set (ps[i]).2.1.toNat (ps[i]).2.2.1).length ec) 3 1 (exs.set (ps[i]).2.1.toNat (ps[i]).2.2.1).length (cF Bf (exs.set (ps[i]).2.1.toNat (ps[i]).2.2.1))::_) w;rw [List.length_set];exact hst
        clear hst;have hst:=hstE;clear hstE;repeat' (first|(apply gK ();go_step)|fail)
        go_roundw
        case rel=>exact ⟨i+1,T1,_,by omega,hT'.trans hT1,by go_num,HEN,Lib.hid (HIN.out ek ea ec),hst.perm (HPM.out _ _)⟩
        case measure=>simp [intOf];omega
       ·obtain rfl:i=ps.length:=by omega
        rw [List.take_length] at HE;have hcl0:(es.map BD.v).length=hs.length:=(Go.Sl.St.get hst (k:=0) rfl).1.trans (Nat.mul_one _);obtain ⟨T3,hT3,hfr,hst1⟩:=Nr (hst.perm (UQ _ es M)) HI.out;clear hst;have hst:=hst1;clear hst1;have hRL:=QX hfr;have hpe3:=Pt.mono (hT'.trans hT3) hpeT;have hpg3:=hpgT.mono (hT'.trans hT3);have hle3:=hleT.trans (hT'.trans hT3);rw [HE.out] at hRL
        have hol:(ps.foldl FW (DN hs)).length=hs.length:=by
         have:=hRL.1;rw [hcl0] at this;show _=_;have e:(Rep.z (List Int))=1:=rfl;rw [e,Nat.mul_one] at this;exact this.symm
        have hlp:=HL.out;obtain ⟨K0,hK0⟩:∃ K,F9 pg hs (ps.foldl FW (DN hs)) []=K:=⟨_,rfl⟩
        have HN2:Hid (U5 K0=R):=Lib.hid (by rw [← hK0];exact HN.out);have HK0:=Lib.hid hK0;have H8:=Lib.hid (UR HB.out ps);clear HB hK0 HN HE HI hfr hpeT hpgT hleT hT' hT3 hvq HP hpt hi hlt hcl0;generalize ps.foldl FW (DN hs)=O at *;generalize es.map BD.v=cs0 at *;have HOL:=Lib.hid hol;have hln8:pg.length≤100000:=by omega
        have hplh:pg.length≤hs.length:=by omega
        clear hol hlp;repeat' (first|(apply gK ();go_step)|apply sY ()|fail)
        go_loopw [67] (fun u67 wr=>∃ (k:Nat) (T4:Ac) (acc os:List (List Int)) (cells:List Value),k≤pg.length∧T3.Le T4∧u67=.int .i64 (k:Int)∧Hid (acc.length=k∧os.length+k=pg.length)∧Hid (F9 (pg.drop k) (hs.drop k) os acc=K0)∧Hid (∀ o∈os,(∀ x∈o,Au x)∧o.length≤8)∧RL T4 cells (acc++os)∧St T4 (.sl (.slice ao hs.length ko) 52 1 hs.length cells::M) wr) (fun v _=>pg.length - (intOf v).toNat)
        case atStart=>exact ⟨0,T3,[],O,cs0,Nat.zero_le _,Ac.Le.refl T3,rfl,Lib.hid ⟨rfl,by rw [HOL.out];exact HL.out.symm⟩,HK0,Lib.hid (fun o ho=>⟨da hRL o ho,H8.out o ho⟩),hRL,hst⟩
        case round =>
         clear hst hRL HK0;obtain ⟨k,T4,acc,os,cells,hk,hT4,rfl,HA,HK,HI,hRk,hst⟩:=hrel;have hone7:=Bh (k:=0) hst rfl;by_cases hlt:k < pg.length
         ·obtain ⟨o,os',rfl⟩:∃ o os',os=o::os':=by
           cases os with
           | nil=>have:=HA.out.2;simp at this;omega
           | cons o os'=>exact ⟨o,os',rfl⟩
          have hpk:=hpb _ (List.getElem_mem hlt);have hkh:k < hs.length:=by omega
          have hpgT4:=hpg3.mono hT4;have HKD:=HK.out;rw [List.drop_eq_getElem_cons hlt,List.drop_eq_getElem_cons hkh] at HKD;have hgk:(acc++o::os')[k]? = some o:=by rw [← HA.out.1,List.getElem?_append_right (Nat.le_refl _),Nat.sub_self];rfl
          have HA1:=Lib.hid (show (acc++[o]).length=k+1∧os'.length+(k+1)=pg.length from ⟨by rw [List.length_append,HA.out.1];rfl,by have:=HA.out.2;simp only [List.length_cons] at this;omega⟩);have HI1:=Lib.hid (fun q hq=>HI.out q (List.mem_cons_of_mem o hq));have hIo:=Lib.hid (HI.out o List.mem_cons_self);by_cases hz:(pg[k]).2.1.length=0
          ·rw [ab hz] at HKD;have HKN:=Lib.hid HKD;have hzz:((((pg[k]).2.1.length:Nat):Int) == 0)=true:=beq_iff_eq.2 (by omega);clear HK HKD hgk HA HI;repeat' ((apply RJ ());first|(apply gK ();go_step)|fail)
           refine wp_region_lit ?_;repeat' (first|(apply gK ();go_step)|(with_reducible refine kL ?_;refine An hst (Av Ab Ak Aa) ?_;rintro v ⟨cl,rfl,hcl⟩<;>(try refine nY ?_))|(apply sJ ();intro v hp)|(apply sZ ();clear hst;intro bk w hst)|fail)
           have hclx:=hcl;obtain ⟨si,sn,rfl,hpR⟩:=EQ hpk hcl;clear hcl hpR;rw [show Rep.agg Pg=true from rfl];(try refine nY ?_);repeat' ((apply P3 ());first|(apply gK ();go_step)|(apply sT ();clear hst;intro w hst)|fail)
           obtain ⟨T5,hT5,hst1,hpP⟩:=AC (α:=Pg) hst hclx rfl;clear hst;have hst:=hst1;clear hst1 hclx;generalize Value.pointer (some ⟨_,0,none⟩)=pP at hpP;have hR5:=hRk.mono hT5;have hpe5:=Pt.mono (hT4.trans hT5) hpe3;repeat' (first|apply sK ()|(apply gK ();go_step)|(with_reducible refine kL ?_;refine An hst (Ae Ab Ak Aa) ?_;rintro v ⟨hvl,hv1⟩<;>(try refine nY ?_))|apply sY ()|(apply sJ ();intro v hp)|fail)
           go_roundw
           case rel=>exact ⟨k+1,T5,acc++[o],os',cells,by omega,hT4.trans hT5,by go_num,HA1,HKN,HI1,by rw [List.append_assoc];exact hR5,hst⟩
           case measure=>simp [intOf];omega
          ·have hzz:((((pg[k]).2.1.length:Nat):Int) == 0)=false:=beq_eq_false_iff_ne.2 (by omega);have hk0:(0:Int)≤(k:Int):=by omega
           have hkn:((k:Int)).toNat < hs.length:=by omega
           obtain ⟨z5,hz5⟩:∃ z,((pg[k]).2.2.2.1 != (hs[k]).2.2.1)=z:=⟨_,rfl⟩
           have hom:o.length≤1048576:=by have:=hIo.out.2;omega
           cases hinf:Dv (Bx (pg[k]).2.1 (pg[k]).2.2.1 (pg[k]).2.2.2.1) o with
           | none =>
            rw [ae hz hinf] at HKD;have HNf:Hid (([],16)=R):=Lib.hid (by rw [← HN2.out,← HKD];rfl);have cI:=fun {S':Ac} {M:List Chunk} (w:World) (hst:St S' M w) (cl:List Value) (hR:Rep.R S' cl pg[k]) (vt:Value) (ht:RSl S' vt o)=>au w hst hpk cl hR vt o ht hom hinf
            clear HK HKD HA HI HA1 HI1 hIo hinf hz HN2;repeat' ((apply RJ ());first|(apply gK ();go_step)|fail)
            refine wp_region_lit ?_;repeat' (first|(apply gK ();go_step)|(with_reducible refine kL ?_;refine An hst (Av Ab Ak Aa) ?_;rintro v ⟨cl,rfl,hcl⟩<;>(try refine nY ?_))|(apply sJ ();intro v hp)|(apply sZ ();clear hst;intro bk w hst)|fail)
            have hclx:=hcl;obtain ⟨si,sn,rfl,hpR⟩:=EQ hpk hcl;clear hcl hpR;rw [show Rep.agg Pg=true from rfl];(try refine nY ?_);repeat' ((apply P3 ());first|(apply gK ();go_step)|(apply sT ();clear hst;intro w hst)|fail)
            obtain ⟨T5,hT5,hst1,hpP⟩:=AC (α:=Pg) hst hclx rfl;clear hst;have hst:=hst1;clear hst1 hclx;generalize Value.pointer (some ⟨_,0,none⟩)=pP at hpP;have hR5:=hRk.mono hT5;have hpe5:=Pt.mono (hT4.trans hT5) hpe3;repeat' ((apply YY ());first|apply sK ()|(apply gK ();go_step)|(with_reducible refine kL ?_;refine An hst (Ae Ab Ak Aa) ?_;rintro v ⟨hvl,hv1⟩<;>(try refine nY ?_))|apply sY ()|(apply sJ ();intro v hp)|fail)
            refine AN hst kr ?_;clear hst;intro w hst;have hSS:=Bk hst;(try refine nY ?_);refine px 0 rfl (Av (y:=pg[k]) Ab hpP Aa) ?_;rintro v0 ⟨c0,rfl,hc0⟩;refine pd 1 rfl ?_;refine pd 2 rfl ?_;refine po 3 rfl ?_;intro K hK;refine An hst (Aq hst Ab SlIn.h rfl Aa Aa hk0 hkn) ?_;rintro v3 hp3;simp only [Int.toNat_natCast] at hp3;refine pn hK ?_;clear hK K;refine po 4 rfl ?_;intro K hK;refine An hst (M8 (j:=k) Ab hp3 SlIn.h hR5 Aa hgk) ?_;rintro v4 hv4;refine pn hK ?_;clear hK K;refine po 5 rfl ?_;intro K hK;refine sc (cI w hst c0 (Rep.mono hSS hc0) v4 (hv4.mono hSS)) ?_;clear hst;rintro v5 w ⟨rfl,hst⟩;refine pn hK ?_;clear hK K;refine pd 6 rfl ?_;refine pd 7 rfl ?_;refine pd 8 rfl ?_;refine pd 9 rfl ?_;refine pd 10 rfl ?_;refine Az kr ?_;have hpP6:=hpP;have hpe6:=hpe5
            cases z5 with
            | true =>
             repeat' ((apply Oj ());first|(apply gK ();go_step)|fail)
             refine AF hst kr ?_;clear hst;intro ops;(try refine nY ?_);refine tx 0 rfl (Ah Ab hpP6 Aa Aa rfl) ?_;rintro v0 hp0;refine tx 1 rfl (Am Ab hp0 Aa) ?_;rintro v1 ⟨rfl,hI1⟩;refine tx 2 rfl (Ah Ab hpe6 Aa Aa rfl) ?_;rintro v2 hp2;refine tx 3 rfl (Ae Ab hp2 Aa) ?_;rintro v3 ⟨hv3,hv31⟩;rw [HHS.out] at hv3;refine td 4 rfl ?_;refine tx 5 rfl (Ao Ab hv3 rfl Aa Aa Af Af) ?_;rintro v5 hp5;replace hp5:=iN hp5;refine tx 6 rfl (Ah Ab hp5 Aa Aa rfl) ?_;rintro v6 hp6;refine tx 7 rfl (Am Ab hp6 Aa) ?_;rintro v7 ⟨rfl,hI7⟩;refine tq 8 rfl (Ez rfl rfl hz5) ?_;refine td 9 rfl ?_;refine tz 10 rfl ?_;refine tz 11 rfl ?_;apply eT ()
            | false =>
             repeat' ((apply Oj ());first|(apply gK ();go_step)|fail)
             refine AF hst kr ?_;clear hst;intro ops;(try refine nY ?_);refine tx 0 rfl (Ah Ab hpP6 Aa Aa rfl) ?_;rintro v0 hp0;refine tx 1 rfl (Am Ab hp0 Aa) ?_;rintro v1 ⟨rfl,hI1⟩;refine tx 2 rfl (Ah Ab hpe6 Aa Aa rfl) ?_;rintro v2 hp2;refine tx 3 rfl (Ae Ab hp2 Aa) ?_;rintro v3 ⟨hv3,hv31⟩;rw [HHS.out] at hv3;refine td 4 rfl ?_;refine tx 5 rfl (Ao Ab hv3 rfl Aa Aa Af Af) ?_;rintro v5 hp5;replace hp5:=iN hp5;refine tx 6 rfl (Ah Ab hp5 Aa Aa rfl) ?_;rintro v6 hp6;refine tx 7 rfl (Am Ab hp6 Aa) ?_;rintro v7 ⟨rfl,hI7⟩;refine tq 8 rfl (Ez rfl rfl hz5) ?_;refine td 9 rfl ?_;refine td 10 rfl ?_;refine td 11 rfl ?_;apply eT ()
           | some l =>
            rw [Nl hz hinf] at HKD;have hl4:∀ x∈l,Au x:=fun x hx=>by have:=(Ol hinf).2.2.1.2 x hx;unfold Au;omega
            have cI:=fun {S':Ac} {M:List Chunk} (w:World) (hst:St S' M w) (cl:List Value) (hR:Rep.R S' cl pg[k]) (vt:Value) (ht:RSl S' vt o)=>aq w hst hpk cl hR vt o l ht hom hinf hl4
            cases z5 with
            | true =>
             have HNf:Hid (([],16)=R):=Lib.hid (by rw [if_pos (bne_iff_ne.1 hz5)] at HKD;rw [← HN2.out,← HKD];rfl);clear HK HKD HA HI HA1 HI1 hIo hinf hz HN2 hl4;repeat' ((apply RJ ());first|(apply gK ();go_step)|fail)
             refine wp_region_lit ?_;repeat' (first|(apply gK ();go_step)|(with_reducible refine kL ?_;refine An hst (Av Ab Ak Aa) ?_;rintro v ⟨cl,rfl,hcl⟩<;>(try refine nY ?_))|(apply sJ ();intro v hp)|(apply sZ ();clear hst;intro bk w hst)|fail)
             have hclx:=hcl;obtain ⟨si,sn,rfl,hpR⟩:=EQ hpk hcl;clear hcl hpR;rw [show Rep.agg Pg=true from rfl];(try refine nY ?_);repeat' ((apply P3 ());first|(apply gK ();go_step)|(apply sT ();clear hst;intro w hst)|fail)
             obtain ⟨T5,hT5,hst1,hpP⟩:=AC (α:=Pg) hst hclx rfl;clear hst;have hst:=hst1;clear hst1 hclx;generalize Value.pointer (some ⟨_,0,none⟩)=pP at hpP;have hR5:=hRk.mono hT5;have hpe5:=Pt.mono (hT4.trans hT5) hpe3;repeat' ((apply YY ());first|apply sK ()|(apply gK ();go_step)|(with_reducible refine kL ?_;refine An hst (Ae Ab Ak Aa) ?_;rintro v ⟨hvl,hv1⟩<;>(try refine nY ?_))|apply sY ()|(apply sJ ();intro v hp)|fail)
             refine AN hst kr ?_;clear hst;intro w hst;have hSS:=Bk hst;(try refine nY ?_);refine px 0 rfl (Av (y:=pg[k]) Ab hpP Aa) ?_;rintro v0 ⟨c0,rfl,hc0⟩;refine pd 1 rfl ?_;refine pd 2 rfl ?_;refine po 3 rfl ?_;intro K hK;refine An hst (Aq hst Ab SlIn.h rfl Aa Aa hk0 hkn) ?_;rintro v3 hp3;simp only [Int.toNat_natCast] at hp3;refine pn hK ?_;clear hK K;refine po 4 rfl ?_;intro K hK;refine An hst (M8 (j:=k) Ab hp3 SlIn.h hR5 Aa hgk) ?_;rintro v4 hv4;refine pn hK ?_;clear hK K;refine po 5 rfl ?_;intro K hK;refine sc (cI w hst c0 (Rep.mono hSS hc0) v4 (hv4.mono hSS)) ?_;clear hst;rintro v5 w ⟨T6,a6,n6,k6,hT6,rfl,hl6,hst⟩;replace hSS:=hSS.trans hT6;refine pn hK ?_;clear hK K;refine pd 6 rfl ?_;refine pd 7 rfl ?_;refine pd 8 rfl ?_;refine pd 9 rfl ?_;refine pd 10 rfl ?_;refine Az kr ?_;have hpP6:=Pt.mono hSS hpP;have hpe6:=Pt.mono hSS hpe5;have hle6:=hle3.trans (hT4.trans (hT5.trans hSS));clear hpP hpe5 hl6;repeat' ((apply Oj ());first|(apply gK ();go_step)|fail)
             refine AF hst kr ?_;clear hst;intro ops;(try refine nY ?_);refine tx 0 rfl (Ah Ab hpP6 Aa Aa rfl) ?_;rintro v0 hp0;refine tx 1 rfl (Am Ab hp0 Aa) ?_;rintro v1 ⟨rfl,hI1⟩;refine tx 2 rfl (Ah Ab hpe6 Aa Aa rfl) ?_;rintro v2 hp2;refine tx 3 rfl (Ae Ab hp2 Aa) ?_;rintro v3 ⟨hv3,hv31⟩;rw [HHS.out] at hv3;refine td 4 rfl ?_;refine tx 5 rfl (Ao Ab hv3 rfl Aa Aa Af Af) ?_;rintro v5 hp5;replace hp5:=iN hp5;refine tx 6 rfl (Ah Ab hp5 Aa Aa rfl) ?_;rintro v6 hp6;refine tx 7 rfl (Am Ab hp6 Aa) ?_;rintro v7 ⟨rfl,hI7⟩;refine tq 8 rfl (Ez rfl rfl hz5) ?_;refine td 9 rfl ?_;refine tz 10 rfl ?_;refine tz 11 rfl ?_;refine td 12 rfl ?_;refine AK kr ?_;clear ops;intro w hst;repeat' (first|(apply gK ();go_step)|fail)
             go_ret2
             exact ⟨_,rfl,T6,(none,0,0),hle6,by rw [← HNf.out];rfl,by rw [← HNf.out];exact Lx,hst.drop⟩
            | false =>
             rw [if_neg (fun h=>h (bne_eq_false_iff_eq.1 hz5))] at HKD;have HKN:=Lib.hid HKD;have hkl:k < (acc++o::os').length:=(List.getElem?_eq_some_iff.1 hgk).1;have hca:=HA.out.1;have HA2:=Lib.hid (show (acc++[l]).length=k+1∧os'.length+(k+1)=pg.length from ⟨by rw [List.length_append,hca];rfl,HA1.out.2⟩);have HSM:=Lib.hid (Zl (o:=o) (l:=l) (os:=os') hca);have hck:cells.length=(acc++o::os').length:=hRk.1.trans (Nat.mul_one _);have hkc:k * 1+1≤cells.length:=by omega
             clear HK HKD HA HI HA1 hIo hinf hz hl4 hca hck;repeat' ((apply RJ ());first|(apply gK ();go_step)|fail)
             refine wp_region_lit ?_;repeat' (first|(apply gK ();go_step)|(with_reducible refine kL ?_;refine An hst (Av Ab Ak Aa) ?_;rintro v ⟨cl,rfl,hcl⟩<;>(try refine nY ?_))|(apply sJ ();intro v hp)|(apply sZ ();clear hst;intro bk w hst)|fail)
             have hclx:=hcl;obtain ⟨si,sn,rfl,hpR⟩:=EQ hpk hcl;clear hcl hpR;rw [show Rep.agg Pg=true from rfl];(try refine nY ?_);repeat' ((apply P3 ());first|(apply gK ();go_step)|(apply sT ();clear hst;intro w hst)|fail)
             obtain ⟨T5,hT5,hst1,hpP⟩:=AC (α:=Pg) hst hclx rfl;clear hst;have hst:=hst1;clear hst1 hclx;generalize Value.pointer (some ⟨_,0,none⟩)=pP at hpP;have hR5:=hRk.mono hT5;have hpe5:=Pt.mono (hT4.trans hT5) hpe3;repeat' ((apply YY ());first|apply sK ()|(apply gK ();go_step)|(with_reducible refine kL ?_;refine An hst (Ae Ab Ak Aa) ?_;rintro v ⟨hvl,hv1⟩<;>(try refine nY ?_))|apply sY ()|(apply sJ ();intro v hp)|fail)
             refine AN hst kr ?_;clear hst;intro w hst;have hSS:=Bk hst;(try refine nY ?_);refine px 0 rfl (Av (y:=pg[k]) Ab hpP Aa) ?_;rintro v0 ⟨c0,rfl,hc0⟩;refine pd 1 rfl ?_;refine pd 2 rfl ?_;refine po 3 rfl ?_;intro K hK;refine An hst (Aq hst Ab SlIn.h rfl Aa Aa hk0 hkn) ?_;rintro v3 hp3;simp only [Int.toNat_natCast] at hp3;refine pn hK ?_;clear hK K;refine po 4 rfl ?_;intro K hK;refine An hst (M8 (j:=k) Ab hp3 SlIn.h hR5 Aa hgk) ?_;rintro v4 hv4;refine pn hK ?_;clear hK K;refine po 5 rfl ?_;intro K hK;refine sc (cI w hst c0 (Rep.mono hSS hc0) v4 (hv4.mono hSS)) ?_;clear hst;rintro v5 w ⟨T6,a6,n6,k6,hT6,rfl,hl6,hst⟩;replace hSS:=hSS.trans hT6;refine pn hK ?_;clear hK K;refine pd 6 rfl ?_;refine pd 7 rfl ?_;refine pd 8 rfl ?_;refine pd 9 rfl ?_;refine pd 10 rfl ?_;refine Az kr ?_;have hpP6:=Pt.mono hSS hpP;have hpe6:=Pt.mono hSS hpe5;have hle6:=hT4.trans (hT5.trans hSS);have hRs:=RL.set (hR5.mono hSS) (cs:=[.slice a6 n6 k6]) (y:=l) ⟨_,rfl,hl6⟩ hkl;rw [HSM.out] at hRs;clear hpP hpe5 hl6 hR5 hRk hgk HSM hkl;repeat' ((apply Oj ());first|(apply gK ();go_step)|fail)
             refine AF hst kr ?_;clear hst;intro ops;(try refine nY ?_);refine tx 0 rfl (Ah Ab hpP6 Aa Aa rfl) ?_;rintro v0 hp0;refine tx 1 rfl (Am Ab hp0 Aa) ?_;rintro v1 ⟨rfl,hI1⟩;refine tx 2 rfl (Ah Ab hpe6 Aa Aa rfl) ?_;rintro v2 hp2;refine tx 3 rfl (Ae Ab hp2 Aa) ?_;rintro v3 ⟨hv3,hv31⟩;rw [HHS.out] at hv3;refine td 4 rfl ?_;refine tx 5 rfl (Ao Ab hv3 rfl Aa Aa Af Af) ?_;rintro v5 hp5;replace hp5:=iN hp5;refine tx 6 rfl (Ah Ab hp5 Aa Aa rfl) ?_;rintro v6 hp6;refine tx 7 rfl (Am Ab hp6 Aa) ?_;rintro v7 ⟨rfl,hI7⟩;refine tq 8 rfl (Ez rfl rfl hz5) ?_;refine td 9 rfl ?_;refine td 10 rfl ?_;refine td 11 rfl ?_;refine td 12 rfl ?_;refine AK kr ?_;clear ops;intro w hst;clear hpP6 hpe6 hp0 hp2 hv3 hp5 hp6;repeat' ((apply iH ());first|(apply gK ();go_step)|fail)
             refine wp_region_lit ?_;repeat' (first|(with_reducible (refine An hst (Aq hst Ab SlIn.h rfl Aa Aa hk0 hkn) ?_;rintro v101 hp101;simp only [Int.toNat_natCast] at hp101)<;>(try refine nY ?_))|(apply gK ();go_step)|fail)
             refine BJ (u:=.slice a6 n6 k6) (cs:=[.slice a6 n6 k6]) hst Ab hp101 SlIn.h Aa Ab rfl rfl rfl hkc ?_;clear hst;intro w hst;(try refine nY ?_);repeat' (first|(apply gK ();go_step)|fail)
             go_roundw
             case rel=>exact ⟨k+1,_,acc++[l],os',_,by omega,hle6,by go_num,HA2,HKN,HI1,hRs,hst⟩
             case measure=>simp [intOf];omega
         ·obtain rfl:k=pg.length:=by omega
          obtain rfl:os=[]:=List.eq_nil_of_length_eq_zero (by have:=HA.out;omega);have HKD:=HK.out;rw [List.drop_length,Pk] at HKD;have HNf:Hid ((acc,0)=R):=Lib.hid (by rw [← HN2.out,← HKD];rfl);rw [List.append_nil] at hRk;obtain ⟨T7,hT7,hst1,hX⟩:=St.freeze (α:=List Int) hst hRk (by rw [HA.out.1];exact HL.out.symm);clear hst;have hst:=hst1;clear hst1;have hle7:=hle3.trans (hT4.trans hT7);clear HA HK HI HKD hRk hT4 hT7 hpe3 hpg3 HN2;repeat' (first|(apply gK ();go_step)|fail)
          go_ret2
          exact ⟨_,rfl,T7,(ao,hs.length,ko),hle7,by rw [← HNf.out];rfl,by rw [← HNf.out];exact hX,hst⟩
   ·have hz3:(((CJ ev.2.1 [] ev.2.2.1:Nat):Int) != 0)=true:=bne_iff_ne.2 (by omega);have HN:Hid ((([],((CJ ev.2.1 [] ev.2.2.1:Nat):Int)):List (List Int)×Int)=R):=Lib.hid (by rw [← HR.out];unfold Fu;rw [if_neg (by rw [hz2];simp [hl]),if_pos hck]);generalize CJ ev.2.1 [] ev.2.2.1=ck at *;clear hz2 HR hl hck;repeat' (first|apply sK ()|apply sG ()|(apply gK ();go_step)|(with_reducible refine kL ?_;refine An hst (Ae (y:=ev.2.1) Ab Ak Aa) ?_;rintro vha ⟨hvha,hvha1⟩<;>(try refine nY ?_))|(with_reducible refine kL ?_;refine An hst (Av (y:=ev) Ab hpe Aa) ?_;rintro v27 ⟨c27,rfl,hc27⟩<;>(try refine nY ?_))|(apply kc ();refine sc (cH _ hst vha hvha) ?_;clear hst;rintro v w ⟨rfl,hst⟩)|(apply kc ();refine sc (cC _ hst c27 hc27) ?_;clear hst;rintro v w ⟨rfl,hst⟩)|apply sY ()|(apply sJ ();intro v hp)|fail)
    apply eS ()
 ·have hz1:(((pg.length:Nat):Int) != ((ev.2.1.length:Nat):Int))=true:=bne_iff_ne.2 (by omega);have HN:Hid ((([],1):List (List Int)×Int)=R):=Lib.hid (by rw [← HR.out];unfold Fu;rw [if_pos (.inl hl)]);clear HR hl;repeat' (first|go_skip|apply sK ()|(apply gK ();go_step)|(with_reducible refine kL ?_;refine An hst (Ae Ab Ak Aa) ?_;rintro v ⟨hvl,hv1⟩<;>(try refine nY ?_))|apply sY ()|(apply sJ ();intro v hp)|fail)
  apply eS ()
end Go.Proofs.YtmmbidoldegemaaGreatDoor
