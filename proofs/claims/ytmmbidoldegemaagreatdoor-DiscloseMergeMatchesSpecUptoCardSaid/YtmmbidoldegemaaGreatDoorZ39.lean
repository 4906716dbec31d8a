/- Part 40 of the proof that the law of the last part holds; no conditions. -/
import Derived.Test.YtmmbidoldegemaaGreatDoorZ11
import Derived.Test.YtmmbidoldegemaaGreatDoorZ18
import Derived.Test.YtmmbidoldegemaaGreatDoorZ29
import Derived.Test.YtmmbidoldegemaaGreatDoorZ31
import Derived.Test.YtmmbidoldegemaaGreatDoorZ38
set_option linter.unusedSimpArgs false
set_option linter.unusedVariables false
set_option maxRecDepth 8000
set_option maxHeartbeats 8000000
namespace Go.Proofs.YtmmbidoldegemaaGreatDoor
open Go.RowKit Go.Sl
theorem Lz {S:Ac} {cl:List Value} {x:Rn} (h:Rep.R S cl x):∃ so:Sv,cl=[.string ⟨x.1.b.toArray⟩,.slice so.1 so.2.1 so.2.2]∧RSl S (Ar so) x.2.1:=by
 obtain ⟨hl,h1,h2⟩:=h;obtain ⟨hl2,h3,h4⟩:=h2;obtain ⟨e1,i1⟩:=h1;obtain ⟨v,e2,h9⟩:=h3;obtain ⟨a,n,c,rfl⟩:=BO h9;refine ⟨(a,n,c),?_,h9⟩;have hl':cl.length=2:=hl
 match cl,hl' with
 | [a,b],_ =>
  have f1:a=_:=(List.cons.inj e1).1;have f2:b=_:=(List.cons.inj e2).1;rw [f1,f2]
theorem XS {S:Ac} {cl:List Value} {x:Ip} (h:Rep.R S cl x):cl=[.string ⟨x.1.b.toArray⟩,.int .i64 x.2.1,.int .i64 x.2.2.1,.int .i64 x.2.2.2.1]∧Au x.2.1∧Au x.2.2.1∧Au x.2.2.2.1:=by
 obtain ⟨hl,h1,h2⟩:=h;obtain ⟨hl2,h3,h4⟩:=h2;obtain ⟨hl3,h5,h6⟩:=h4;obtain ⟨hl4,h7,h8⟩:=h6;obtain ⟨e1,i1⟩:=h1;obtain ⟨e2,i2⟩:=h3;obtain ⟨e3,i3⟩:=h5;obtain ⟨e4,i4⟩:=h7;refine ⟨?_,i2,i3,i4⟩;apply ip ()
abbrev P8 (S:Ac) (M:List Chunk) (r:List Pg×List Ev) (v:Value) (w:World):Prop :=
 ∃ S' sp sl:_,S.Le S'∧v=.tuple #[Ar sp,Ar sl]∧RSl S' (Ar sp) r.1∧RSl S' (Ar sl) r.2∧St S' M w
section
variable {x:Rn} {p:Pg} {e:Int}
theorem bT (h:Cj x.1.b=(p,0)) (hc:BH p=0):HH x=if (JL (IE p) (En x.2.1 p.1 0) []).2≠0 then none else some (p,En x.2.1 p.1 0,(JL (IE p) (En x.2.1 p.1 0) []).1):=by
 unfold HH;rw [h,if_neg (by simp only [hc,KV hc];simp)]
end
theorem VQ {l:List Rn} {i:Nat} {a:List Pg×List Ev} (h:i < l.length) (hs:¬ (i≥4∨(l[i]).1.b.length > 400)) (hr:HH l[i]=none):EX (l.drop i) i a=EX (l.drop (i+1)) (i+1) a:=by
 rw [List.drop_eq_getElem_cons h,EX,if_neg hs,hr]
theorem VP {l:List Rn} {i:Nat} {a:List Pg×List Ev} {p ins o} (h:i < l.length) (hs:¬ (i≥4∨(l[i]).1.b.length > 400)) (hr:HH l[i]=some (p,ins,o)):EX (l.drop i) i a=EX (l.drop (i+1)) (i+1) (a.1++[p],a.2++[PH i ins o]):=by
 rw [List.drop_eq_getElem_cons h,EX,if_neg hs,hr]
theorem Rm (bs:List UInt8):∀ (xs:List Ip) (i:Nat),(En bs xs i).length=xs.length
 | [],_=>rfl
 | d::r,i=>by rw [En,List.length_cons,List.length_cons,Rm bs r]
theorem Pq (bs:List UInt8):∀ (xs:List Ip) (d:Ip) (i:Nat),En bs (xs++[d]) i=En bs xs i++[Iy bs d (i+xs.length)]
 | [],d,i=>rfl
 | x::r,d,i=>by
  rw [List.cons_append,En,En,Pq bs r d,List.cons_append,List.length_cons]
  congr 4
  omega
theorem dW (bs:List UInt8) (d:Ip) (i:Nat):0≤Iy bs d i∧Iy bs d i≤255:=by
 unfold Iy;split
 ·have h:=(bs[i]).toNat_lt;have hn:1≤Pb d:=by unfold Pb;split<;>omega
  obtain ⟨k,hk⟩:=Int.eq_ofNat_of_zero_le (show 0≤Pb d by omega);rw [hk];have h2:=Nat.mod_le (bs[i]).toNat k;have e:((bs[i]).toNat:Int) % (k:Int)=(((bs[i]).toNat % k:Nat):Int):=by simp
  rw [e];omega
 ·omega
set_option maxRecDepth 60000 in
theorem eM {S M} (w:World) (hst:St S M w) (vl:Value) (l:List Rn) (hl:RSl S vl l) (hGl:∀ x∈l,x=(⟨KG⟩,[],())) (hm:l.length≤1) :
  Ad Tryz.prog 15 [vl] w (P8 S M (MJ l)):=by
 unfold Ad;obtain ⟨R,hR⟩:∃ R,MJ l=R:=⟨_,rfl⟩
 rw [hR];unfold MJ at hR;have HR:=Lib.hid hR;clear hR;go_enter Tryz.func15,Tryz.ntmps15;replace hst:=hst.nil 54 20;replace hst:=hst.nil 87 4;repeat' (first|(apply gK ();go_step)|apply sY ()|fail)
 go_loopw [4,5,21] (fun u4 u5 u21 wr=>∃ (i n:Nat) (T:Ac) (a:List Pg×List Ev) (sp sg:Sv) (cp cg:List Value),i≤l.length∧i≤4∧n≤i∧S.Le T∧u4=Ar sp∧u5=Ar sg∧u21=.int .i64 (i:Int)∧Hid (EX (l.drop i) i a=R)∧Hid (n=a.1.length∧n=a.2.length)∧RL T cp a.1∧RL T cg a.2∧St T (.sl (Ar sp) 87 4 n cp::.sl (Ar sg) 54 20 n cg::M) wr) (fun _ _ v _=>l.length - (intOf v).toNat)
 case atStart=>exact ⟨0,0,S,([],[]),(none,0,0),(none,0,0),[],[],Nat.zero_le _,by omega,by omega,Ac.Le.refl S,rfl,rfl,rfl,HR,Lib.hid ⟨rfl,rfl⟩,RL.nil,RL.nil,hst⟩
 case round =>
  clear hst HR;obtain ⟨i,n,T,a,sp,sg,cp,cg,hi2,hi4,hni,hT,rfl,rfl,rfl,HR,HN,hP,hG,hst⟩:=hrel;have hone4:=Bh (k:=0) hst rfl;have hone5:=Bh (k:=1) hst rfl;have hlT:RSl T vl l:=hl.mono hT
  have HEND:Hid (a=R→∀ T1,T.Le T1→∀ w',St T1 (.sl (Ar sp) 87 4 n cp::.sl (Ar sg) 54 20 n cg::M) w'→P8 S M R (.tuple #[Ar sp,Ar sg]) w'):=Lib.hid (by
   rintro rfl T1 hT1 w' hst;obtain ⟨S2,hS2,hst2,hx⟩:=St.freeze (α:=Pg) hst (hP.mono hT1) HN.out.1;obtain ⟨S3,hS3,hst3,hy⟩:=St.freeze (α:=Ev) hst2 (hG.mono (hT1.trans hS2)) HN.out.2;exact ⟨S3,sp,sg,hT.trans (hT1.trans (hS2.trans hS3)),rfl,hx.mono hS3,hy,hst3⟩)
  by_cases hlt:i < l.length
  ·have hx:=hGl _ (List.getElem_mem hlt);have h4:¬ 4≤i:=by omega
   have h400:¬ (l[i]).1.b.length > 400:=by rw [hx];show ¬ KG.length > 400;decide
   have hns:¬ (i≥4∨(l[i]).1.b.length > 400):=by omega
   have h401:¬ ((l[i]).1.b.length:Int) > 400:=by omega
   have NX:=Lib.hid (fun h=>(VQ (a:=a) hlt hns h).symm.trans HR.out);have SX:=Lib.hid (fun p ins o h=>(VP (a:=a) (p:=p) (ins:=ins) (o:=o) hlt hns h).symm.trans HR.out);clear HEND HR;have cP:=fun {S':Ac} {M:List Chunk} (w:World) (hst:St S' M w)=>dy w hst (l[i]).1.b (by omega)
   have hpl:=Sq (l[i]).1.b;obtain ⟨q,hq⟩:∃ q,Cj (l[i]).1.b=q:=⟨_,rfl⟩
   rw [hq] at hpl cP;obtain ⟨p,e⟩:=q;simp only at hpl cP;have hb:FP p:=⟨by omega,by omega,fun x hx=>by have:=hpl.2.2 x hx;omega⟩
   have hpe:(p,e)=(Ci,0):=by rw [← hq,hx];exact fx
   have HPG:Hid (p=Ci):=Lib.hid (Prod.mk.inj hpe).1;have he:e=0:=(Prod.mk.inj hpe).2;have HX:=Lib.hid hx;have hkd:RP p:=by rw [HPG.out];unfold RP;decide
   have hck:BH p=0:=by rw [HPG.out];exact Sa
   clear hpe hx;have HQ:=Lib.hid hq;clear hq;repeat' ((apply Z5 ());first|(apply gK ();go_step)|fail)
   refine wp_region_lit ?_;repeat' (first|(apply gK ();go_step)|(with_reducible refine kL ?_;refine An hst (Av Ab Ak Aa) ?_;rintro v ⟨cl,rfl,hcl⟩<;>(try refine nY ?_))|(apply sJ ();intro v hp)|(apply sZ ();clear hst;intro bk w hst)|fail)
   have hclx:=hcl;obtain ⟨so,rfl,hbs⟩:=Lz hcl;clear hcl;rw [show Rep.agg Rn=true from rfl];(try refine nY ?_);repeat' ((apply Z6 ());first|(apply gK ();go_step)|(apply sT ();clear hst;intro w hst)|fail)
   obtain ⟨T1,hT1,hst1,hpx⟩:=AC (α:=Rn) hst hclx rfl;clear hst;have hst:=hst1;clear hst1 hclx hbs;generalize Value.pointer (some ⟨bk,0,none⟩)=pX at *;have hP1:=hP.mono hT1;have hG1:=hG.mono hT1;clear hns;repeat' ((apply Z8 ());first|apply sG ()|(with_reducible refine Sl.k_guard ?_;refine Sl.guard_cases rfl ?_ ?_<;>intro hg<;>first|exact gX|(simp only [hg,Bool.not_true,Bool.not_false])<;>(try replace hg:=gN hg)<;>(try refine nY ?_))|(apply gK ();go_step)|(with_reducible refine kC ?_;refine B9 (cP _ hst) Aa rfl ?_;clear hst;rintro v w ⟨T2,si,sn,hT2,rfl,⟨hi,hn,hr,hqq⟩,hst⟩<;>(try refine nY ?_)<;>(try replace hst:=nH hst))|(with_reducible refine kL ?_;refine An hst (AL Ab Ak Aa) ?_;rintro v ⟨rfl,hs⟩<;>(try refine nY ?_))|(with_reducible refine kC ?_;refine Ag hst (by exact AS Ab Aa) ?_<;>(try refine nY ?_))|(apply sJ ();intro v hp)|(apply sT ();clear hst;intro w hst)|(apply sZ ();clear hst;intro bk w hst)|fail)
   rename Nat=>bq
   have hpG:Du T2 si sn p:=⟨hi,hn,hr,hqq,hb.li,hb.ln,hb.lo⟩
   clear cP hi hn hr hqq;have cC:=fun {S':Ac} {M:List Chunk} (w:World) (hS:T2.Le S') (hst:St S' M w)=>eI w hst si sn p hkd (hpG.mono hS)
   have cE:=fun {S':Ac} {M:List Chunk} (w:World) (hS:T2.Le S') (hst:St S' M w)=>O6 w hst si sn p hkd (hpG.mono hS)
   have hle2:=Ac.Le.refl T2;have hP2:=hP1.mono hT2;have hG2:=hG1.mono hT2;subst he;have hk:=hck;rw [KV hk] at cC;rw [hk] at cE;have RV:=Lib.hid (bT HQ.out hk);have hw:=KT hkd (MH hk);have hml:=JO hw;have hcode:IE p=(AQ p (p.2.1.length+1) p.2.2.1 0++i1 16 0 0,DP p p.2.1.length,p.2.2.2.1,()):=by unfold IE;rw [KV hk]
   clear HQ;repeat' ((apply Z9 ());first|(apply gK ();go_step)|(with_reducible refine kC ?_;refine B9 (cC _ hle2 hst) Aa rfl ?_;clear hst;rintro v w ⟨T3,sc,hT3,rfl,hc,hst⟩<;>(try refine nY ?_)<;>(try replace hst:=nH hst))|(with_reducible refine kL ?_;refine Ag hst (by exact Bl Ab BoxIn.h Aa E5) ?_<;>(try refine nY ?_))|(apply sT ();clear hst;intro w hst)|(apply sZ ();clear hst;intro bk w hst)|fail)
   have hle3:=hT3;clear cC;repeat' ((apply V8 ());first|apply sG ()|(apply gK ();go_step)|(with_reducible refine kC ?_;refine B9 (cE _ hle3 hst) Aa rfl ?_;clear hst;rintro v w ⟨T4,hT4,rfl,hst⟩<;>(try refine nY ?_)<;>(try replace hst:=nH hst))|(with_reducible refine kL ?_;refine Ag hst (by exact Bl Ab BoxIn.h Aa E5) ?_<;>(try refine nY ?_))|fail)
   rename Nat=>bc
   clear cE;have hi4:=hpG.i.mono (hT3.trans hT4);have hpx4:=hpx.mono (hT2.trans (hT3.trans hT4));have hli:=hb.li;generalize hxs:p.1=xs at *;have HXS:=Lib.hid hxs;clear hxs;replace hst:=hst.nil 3 1;repeat' (first|(apply gK ();go_step)|apply sY ()|fail)
   go_loopw [12,59] (fun u12 u59 wr=>∃ (j:Nat) (ao:Option Addr) (ko:Nat) (ci:List Value),j≤xs.length∧u12=.slice ao j ko∧u59=.int .i64 (j:Int)∧RL T4 ci (En (l[i]).2.1 (xs.take j) 0)∧St T4 (.sl (.slice ao j ko) 3 1 j ci::.box bc [Ar sc,.int .i64 (DP p p.2.1.length),.int .i64 p.2.2.2.1] 92::.box bq [.slice si.1 si.2.1 si.2.2,.slice sn.1 sn.2.1 sn.2.2,.int .i64 p.2.2.1,.int .i64 p.2.2.2.1] 87::.sl (Ar sp) 87 4 n cp::.sl (Ar sg) 54 20 n cg::M) wr) (fun _ v _=>xs.length - (intOf v).toNat)
   case atStart=>exact ⟨0,none,0,[],Nat.zero_le _,rfl,rfl,RL.nil,hst⟩
   case round =>
    clear hst;obtain ⟨j,ao,ko,ci,hj2,rfl,rfl,hC,hst⟩:=hrel;have hone:=Bh (k:=0) hst rfl;by_cases hjl:j < xs.length
    ·have hsn:Hid (En (l[i]).2.1 (xs.take (j+1)) 0=En (l[i]).2.1 (xs.take j) 0++[Iy (l[i]).2.1 xs[j] j]):=Lib.hid (by rw [List.take_succ_eq_append_getElem hjl,Pq,List.length_take,Nat.min_eq_left (by omega),Nat.zero_add]);have hbd:=dW (l[i]).2.1 xs[j] j;obtain ⟨cd,hcd⟩:=OR hi4 hjl;clear hcode NX SX RV HN hP hG hP1 hG1 hP2 hG2 hml hw hk hpl hb hpG hle2 hle3 hT hT1 hT2 hT3 hT4 hlT hl hpx hc;obtain ⟨rfl,hd1,hd2,hd3⟩:=XS hcd;repeat' ((apply fd ());first|(apply gK ();go_step)|apply sP ()|(apply sJ ();intro v hp)|(apply sT ();clear hst;intro w hst)|(apply sZ ();clear hst;intro bk w hst)|fail)
     obtain ⟨z1,hz1⟩:∃ z,(xs[j].2.1 == 2)=z:=⟨_,rfl⟩
     obtain ⟨z2,hz2⟩:∃ z,(xs[j].2.1 == 4)=z:=⟨_,rfl⟩
     have kz:(z1=true)∨(z1=false∧z2=true)∨(z1=false∧z2=false):=by cases z1<;>cases z2<;>simp
     have hjb:¬ j < (l[i]).2.1.length:=by rw [HX.out];exact Nat.not_lt_zero _
     rcases kz with rfl|⟨rfl,rfl⟩|⟨rfl,rfl⟩
     all_goals
      have hvq:Hid (Iy (l[i]).2.1 xs[j] j=0):=Lib.hid (by unfold Iy;rw [dif_neg hjb]);repeat' (first|apply sK ()|apply sG ()|(apply gK ();go_step)|(with_reducible refine kL ?_;refine An hst (Ae Ab Ak Aa) ?_;rintro v ⟨hvl,hv1⟩<;>(try refine nY ?_))|(with_reducible refine kC ?_;refine Ag hst (by first|exact Ei Ab Ak Aa|exact EK rfl rfl) ?_<;>(try refine nY ?_))|apply sY ()|(apply sJ ();intro v hp)|fail)
      refine AA (vs:=[(.int .i64 (0))]) hst Aa Aa rfl rfl (by simp [Value.cells]) rfl (by omega) (by omega) ?_;clear hst;intro u w hst;refine nY ?_;refine AG (j:=0) hst Ab Ab SlIn.h rfl Aa Aa Aa (by simp [Value.cells,Value.oneCell']) (by omega) (by omega) (by decide) ?_;clear hst;intro v' w hst;refine nY ?_;(try replace hst:=nH hst);replace hst:=hst.drop;obtain ⟨ay,cy,hso⟩:=Go.Sl.sl_formk (k:=1) hst rfl;subst hso;(try refine nY ?_);repeat' (first|(apply gK ();go_step)|fail)
      go_roundw
      case rel=>exact ⟨j+1,ay,cy,ci++[.int .i64 (0)],by omega,rfl,by go_num,by rw [hsn.out,hvq.out];exact hC.append (Cg (Aj (by rw [← hvq.out];omega))),hst.drop⟩
      case measure=>simp [intOf];omega
    ·obtain rfl:j=xs.length:=by omega
     rw [List.take_length] at hC;have hIL:=Rm (l[i]).2.1 xs 0;obtain ⟨T5,hT5,hst5,hx5⟩:=St.freeze (α:=Int) hst hC hIL.symm;clear hst;have hst:=hst5;clear hst5;have RV2:=RV.out;rw [hcode] at RV2;obtain ⟨r,hr⟩:∃ r,JL (AQ p (p.2.1.length+1) p.2.2.1 0++i1 16 0 0,DP p p.2.1.length,p.2.2.2.1,()) (En (l[i]).2.1 xs 0) []=r:=⟨_,rfl⟩
     rw [hr] at RV2;have hc5:=hc.mono (hT4.trans hT5);have hC1:(AQ p (p.2.1.length+1) p.2.2.1 0++i1 16 0 0,DP p p.2.1.length,p.2.2.2.1,())=YH:=by rw [← hcode,HPG.out];exact Uo
     have hI1:En (l[i]).2.1 xs 0=[0]:=by rw [HX.out,← HXS.out,HPG.out];rfl
     have hr0:r.2=0:=by rw [← hr,hC1,hI1,Zm]
     have cR:=fun {M:List Chunk} (w:World) (hst:St T5 M w)=>bW (Rc:=RcS) w hst (Ar sc) (AQ p (p.2.1.length+1) p.2.2.1 0++i1 16 0 0,DP p p.2.1.length,p.2.2.2.1,()) hc5 (by rw [List.length_append];show _+1≤_;omega) (.slice ao xs.length ko) _ hx5 (by rw [hIL];omega) (.slice none 0 0) [] Sz (Nat.zero_le _) (by rw [hC1,hI1];decide) (by rw [hC1];exact step_s) (by rw [hC1];exact next_s) (by rw [hC1,hI1];exact .inl rfl) hr
     have HN2:=HN.out;have hI4:Au r.1.2.2.1:=bI hc5 hr;clear hC1 hI1 hr hcode RV hw hk hle2 hle3 hc hC hone hml hpl;rw [if_neg (by omega)] at RV2;have HB:=Lib.hid (SX.out _ _ _ RV2);clear NX SX RV2;repeat' ((apply iH ());first|(apply gK ();go_step)|(with_reducible refine kC ?_;refine B9 (cR _ hst) Aa rfl ?_;clear hst;rintro v w ⟨T6,a1,n1,k1,a2,n2,k2,hT6,rfl,hq1,hq2,hst⟩<;>(try refine nY ?_)<;>(try replace hst:=nH hst))|(with_reducible refine kL ?_;refine Ag hst (by exact Bl Ab BoxIn.h Aa E5) ?_<;>(try refine nY ?_))|(apply sT ();clear hst;intro w hst)|(apply sZ ();clear hst;intro bk w hst)|fail)
     replace hst:St T6 (.box bk [.slice a1 n1 k1,.slice a2 n2 k2,.int .i64 r.1.2.2.1,.int .i64 r.1.2.2.2.1] 99::.box bc [Ar sc,.int .i64 (DP p p.2.1.length),.int .i64 p.2.2.2.1] 92::.box bq [.slice si.1 si.2.1 si.2.2,.slice sn.1 sn.2.1 sn.2.2,.int .i64 p.2.2.1,.int .i64 p.2.2.2.1] 87::.sl (Ar sp) 87 4 n cp::.sl (Ar sg) 54 20 n cg::M) _:=hst;have hp6:=hpG.mono (hT3.trans (hT4.trans (hT5.trans hT6)));have hP6:=hP2.mono (hT3.trans (hT4.trans (hT5.trans hT6)));have hG6:=hG2.mono (hT3.trans (hT4.trans (hT5.trans hT6)));have hx6:=hx5.mono hT6;have hTT:=hT.trans (hT1.trans (hT2.trans (hT3.trans (hT4.trans (hT5.trans hT6)))));clear hpG hP1 hP2 hG1 hG2 hx5 hT hT1 hT2 hT3 hT4 hT5 hT6 cR hc5;repeat' (first|(apply gK ();go_step)|(with_reducible refine kL ?_;refine Ag hst (by exact Bl Ab BoxIn.h Aa E5) ?_<;>(try refine nY ?_))|fail)
     refine AA (vs:=[(CR si sn p)]) hst Aa Aa rfl rfl (by simp [Value.cells]) rfl (by omega) (by omega) ?_;clear hst;intro u w hst;refine nY ?_;refine AG (j:=0) hst Ab Ab SlIn.h rfl Aa Aa Aa (by simp [Value.cells,Value.oneCell']) (by omega) (by omega) (by decide) ?_;clear hst;intro v' w hst;refine nY ?_;(try replace hst:=nH hst);replace hst:=hst.drop;obtain ⟨ay,cy,hso⟩:=Go.Sl.sl_formk (k:=3) hst rfl;subst hso;(try refine nY ?_);repeat' (first|(with_reducible refine Go.Sl.kV ?_;with_unfolding_all refine Ag hst (Eu (m:=(i:Int)) rfl Aa Aa (Qy ⟨by omega,by omega⟩)) ?_<;>(try refine nY ?_))|(apply gK ();go_step)|apply sY ()|fail)
     refine AA (vs:=[(.agg #[.int .u8 (i:Int),.int .u8 0,.int .u8 0,.int .u8 0,.int .u8 0,.int .u8 0,.int .u8 0,.int .u8 0,.int .u8 0,.int .u8 0,.int .u8 0,.int .u8 0,.int .u8 0,.int .u8 0,.int .u8 0,.int .u8 0,.slice ao xs.length ko,.slice a1 n1 k1,.slice a2 n2 k2,.int .i64 r.1.2.2.1])]) hst Aa Aa rfl rfl (by simp [Value.cells]) rfl (by omega) (by omega) ?_;clear hst;intro u w hst;refine nY ?_;refine AG (j:=0) hst Ab Ab SlIn.h rfl Aa Aa Aa (by simp [Value.cells,Value.oneCell']) (by omega) (by omega) (by decide) ?_;clear hst;intro v' w hst;refine nY ?_;(try replace hst:=nH hst);replace hst:=hst.drop;obtain ⟨az,cz,hsz⟩:=Go.Sl.sl_formk (k:=4) hst rfl;subst hsz;(try refine nY ?_);repeat' (first|(apply gK ();go_step)|fail)
     have hev:Rep.R T6 [.int .u8 (i:Int),.int .u8 0,.int .u8 0,.int .u8 0,.int .u8 0,.int .u8 0,.int .u8 0,.int .u8 0,.int .u8 0,.int .u8 0,.int .u8 0,.int .u8 0,.int .u8 0,.int .u8 0,.int .u8 0,.int .u8 0,.slice ao xs.length ko,.slice a1 n1 k1,.slice a2 n2 k2,.int .i64 r.1.2.2.1] (PH i (En (l[i]).2.1 xs 0) r.1):=eC (by omega) hx6 hq1 hq2 hI4;go_roundw
     case rel=>exact ⟨i+1,n+1,T6,(a.1++[p],a.2++[PH i (En (l[i]).2.1 xs 0) r.1]),(ay,n+1,cy),(az,n+1,cz),_,_,by omega,by omega,by omega,hTT,rfl,rfl,by go_num,HB,Lib.hid ⟨by rw [List.length_append,← HN2.1];rfl,by rw [List.length_append,← HN2.2];rfl⟩,hP6.append (RL.one_mk (GM hp6)),hG6.append (RL.one_mk hev),hst.sub⟩
     case measure=>simp [intOf];omega
  ·have hE:a=R:=by
    have:=HR.out;rwa [List.drop_of_length_le (by omega),EX] at this
   repeat' (first|(apply gK ();go_step)|fail)
   go_ret2
   exact ⟨_,rfl,HEND.out hE T (Ac.Le.refl T) _ hst⟩
instance ms:MapT Tryz.prog 83 57 4:=⟨Tryz.underlying83⟩
instance Ht:FlatC (Int×Int) A9:=⟨fun {S cs x} h=>by
 obtain ⟨hl,h1,h2⟩:=h;have hl':cs.length=2:=hl
 match cs,hl' with
 | [a,b],_ =>
  have f1:a=_:=(List.cons.inj h1.1).1;have f2:b=_:=(List.cons.inj h2.1).1;rw [f1,f2];rfl⟩
theorem L6 (x:Int×Int):Instr.sameBits 10000 (.agg (A9 x).toArray) (.agg (A9 x).toArray)=true:=by
 unfold A9;simp [Instr.sameBits]
theorem KI {α:Type} [Rep α] {S:Ac} {v:Value} {xs:List α} (h:RSl S v xs) {i:Nat} (hi:i < xs.length):∃ cs,Rep.R S cs xs[i]:=by
 apply gH ()
theorem Ln {α:Type} (q:α→Bool) (xs:List α) {i:Nat} (h:i < xs.length):(xs.take (i+1)).filter q=if q xs[i]=true then (xs.take i).filter q++[xs[i]] else (xs.take i).filter q:=by
 rw [List.take_succ_eq_append_getElem h,List.filter_append];by_cases hq:q xs[i]=true
 ·rw [if_pos hq,List.filter_cons_of_pos hq,List.filter_nil]
 ·rw [if_neg hq,List.filter_cons_of_neg hq,List.filter_nil,List.append_nil]
def Jc (kvs:List ((Int×Int)×Value)) (xs:List (Int×Int)):Prop:=∀ k,Bu kvs k=if k∈xs then some (.bool true) else none
theorem XQ:Jc [] []:=fun k=>by rw [It];simp
theorem XP {kvs:List ((Int×Int)×Value)} {xs:List (Int×Int)} {x:Int×Int} (h:Jc kvs xs) (hx:x ∉ xs):Jc (kvs++[(x,.bool true)]) (xs++[x]):=fun k=>by
 rw [Mr,h k];by_cases h1:k∈xs
 ·simp [h1]
 ·by_cases h2:k=x
  ·simp [h1,h2,hx]
  ·simp [h1,h2]
theorem XO {kvs:List ((Int×Int)×Value)} {xs:List (Int×Int)} {x:Int×Int} (h:Jc kvs xs) (hx:x∈xs):Jc (Ec kvs x (.bool true)) (xs++[x]):=fun k=>by
 rw [Lh,h x,h k];by_cases h2:k=x
 ·simp [h2,hx]
 ·by_cases h1:k∈xs<;>simp [h1,h2]
def H3 (ev:Br) (ks:List (Int×Int)):Br:=(ev.1,ev.2.1,ev.2.2.1.filter (fun p=>decide (kP p∈ks)),())
abbrev KZ (S:Ac) (M:List Chunk) (x:Br) (v:Value) (w:World):Prop:=∃ S' cs,S.Le S'∧v=.agg cs.toArray∧Rep.R S' cs x∧St S' M w
theorem Vt {a0 a1 a2 a3 a4 a5 a6 a7 a8 a9 c0 c1 c2 c3 c4 c5:UInt8} {S:Ac} {cl:List Value} {hs:List Hd} {ps:List Pn} (h:Rep.R S cl (((⟨[a0,a1,a2,a3,a4,a5,a6,a7,a8,a9,c0,c1,c2,c3,c4,c5]⟩:Dg),hs,ps,()):Br)) :
  ∃ ua un uc pa pn pc,cl=Fw a0 a1 a2 a3 a4 a5 a6 a7 a8 a9 c0 c1 c2 c3 c4 c5 (.slice ua un uc) (.slice pa pn pc)∧RSl S (.slice ua un uc) hs∧RSl S (.slice pa pn pc) ps:=by
 obtain ⟨hl,h1,h2⟩:=h;obtain ⟨hl2,h3,h4⟩:=h2;obtain ⟨hl3,h5,h6⟩:=h4;obtain ⟨v1,e1,i1⟩:=h3;obtain ⟨v2,e2,i2⟩:=h5
 have hs1:∀ {α:Type} [Rep α] {v:Value} {xs:List α},RSl S v xs→∃ a n c,v=.slice a n c:=by
  intro α _ v xs h9;apply gv ()
 obtain ⟨ua,un,uc,rfl⟩:=hs1 i1;obtain ⟨pa,pn,pc,rfl⟩:=hs1 i2;refine ⟨ua,un,uc,pa,pn,pc,?_,i1,i2⟩;have e0:=(FlatC.flat (cells:=fun d:Dg=>u8s d.l) h1:cl.take 16=_)
 have hz1:Rep.z Dg=16:=rfl
 have hcl:cl=cl.take 16++(((cl.drop 16).take 1)++(((cl.drop 16).drop 1).take 1++((cl.drop 16).drop 1).drop 1)):=by
  rw [List.take_append_drop,List.take_append_drop,List.take_append_drop]
 have hl':cl.length=18:=hl;have h18:((cl.drop 16).drop 1).drop 1=[]:=List.drop_eq_nil_of_le (by simp;omega);have e1':(cl.drop 16).take 1=[.slice ua un uc]:=e1;have e2':((cl.drop 16).drop 1).take 1=[.slice pa pn pc]:=e2;rw [hcl,e0,e1',e2',h18];rfl
theorem LB {S M} (w:World) (hst:St S M w) (cs:List Value) (ev:Br) (hR:Rep.R S cs ev) (vk:Value) (ks:List (Int×Int)) (hk:RSl S vk ks) (hm:ev.2.2.1.length≤1000000) (hm2:ks.length≤1048576) :
  Ad Tryz.prog 13 [.agg cs.toArray,vk] w (KZ S M (H3 ev ks)):=by
 unfold Ad;obtain ⟨m,hs,ps,⟨⟩⟩:=ev;have hm16:m.l.length=16:=hR.2.1.1;obtain ⟨a0,a1,a2,a3,a4,a5,a6,a7,a8,a9,c0,c1,c2,c3,c4,c5,rfl⟩:=LM hm16;obtain ⟨ua,un,uc,pa,pn,pc,rfl,hu,hp⟩:=Vt hR;unfold H3;simp only at hm ⊢;obtain ⟨R,hRR⟩:∃ R,ps.filter (fun p=>decide (kP p∈ks))=R:=⟨_,rfl⟩
 rw [hRR];have HR:=Lib.hid hRR;clear hRR hR;go_enter Tryz.func13,Tryz.ntmps13;repeat' ((apply Z1 ());first|(apply gK ();go_step)|(apply sC ();clear hst;intro bx w hst)|(apply sZ ();clear hst;intro bk w hst)|fail)
 rename Nat=>bz
 refine wp_region_lit ?_;refine J6 hst ?_;clear hst;intro bm w hst;(try refine nY ?_);repeat' (first|(apply gK ();go_step)|apply sY ()|fail)
 go_loopw [14] (fun u14 wr=>∃ (i clock:Nat) (es:Array MapEntry) (kvs:List ((Int×Int)×Value)),i≤ks.length∧u14=.int .i64 (i:Int)∧Hid (Jc kvs (ks.take i))∧BE S es.toList kvs∧St S (.obj bm (.map es clock)::.box bz DO 27::.box bx (Fw a0 a1 a2 a3 a4 a5 a6 a7 a8 a9 c0 c1 c2 c3 c4 c5 (.slice ua un uc) (.slice pa pn pc)) 27::M) wr) (fun v _=>ks.length - (intOf v).toNat)
 case atStart=>exact ⟨0,0,#[],[],Nat.zero_le _,rfl,Lib.hid XQ,trivial,hst⟩
 case round =>
  clear hst;obtain ⟨i,clock,es,kvs,hi,rfl,HK,hmap,hst⟩:=hrel;by_cases hlt:i < ks.length
  ·have hsn:Hid (ks.take (i+1)=ks.take i++[ks[i]]):=Lib.hid (by rw [List.take_succ_eq_append_getElem hlt]);obtain ⟨ck,hck⟩:=KI hk hlt;have hck2:Rep.R S (A9 ks[i]) ks[i]:=by rw [← Ht.flat hck];exact hck
   have hat:=HK.out ks[i];repeat' ((apply Z5 ());first|(apply gK ();go_step)|apply sP ()|(apply sJ ();intro v hp)|(apply sZ ();clear hst;intro bk w hst)|fail)
   simp only [A9];repeat' ((apply Z5 ());first|(apply gK ();go_step)|(apply sT ();clear hst;intro w hst)|fail)
   refine wp_region_lit ?_;repeat' (first|(apply gK ();go_step)|(with_reducible refine kL ?_;refine Ag hst (by exact Bl Ab BoxIn.h Aa E5) ?_<;>(try refine nY ?_))|fail)
   by_cases hin:ks[i]∈ks.take i
   ·rw [if_pos hin] at hat;refine HG (cells:=A9) hst Ab rfl Ab Ht Aa Aa kr Aa Aa hmap hck2 hat (L6 _) ?_;clear hst;intro es' w hmap' hst;(try refine nY ?_);(try replace hst:=nH hst);repeat' (first|(apply gK ();go_step)|fail)
    go_roundw
    case rel=>exact ⟨i+1,clock,es',_,by omega,by go_num,Lib.hid (by rw [hsn.out];exact XO HK.out hin),hmap',hst.drop⟩
    case measure=>simp [intOf];omega
   ·rw [if_neg hin] at hat;refine Gg (x:=ks[i]) (cs:=A9 ks[i]) hst Ab rfl Ab Aa Aa kr Aa Aa hmap hck2 hat ?_;clear hst;intro es' w hmap' hst;(try refine nY ?_);(try replace hst:=nH hst);repeat' (first|(apply gK ();go_step)|fail)
    go_roundw
    case rel=>exact ⟨i+1,clock+1,es',_,by omega,by go_num,Lib.hid (by rw [hsn.out];exact XP HK.out hin),hmap',hst.drop⟩
    case measure=>simp [intOf];omega
  ·obtain rfl:i=ks.length:=by omega
   rw [List.take_length] at HK;have hkept:=Lib.hid HK.out;clear HK;replace hst:=hst.nil 63 4;repeat' (first|(apply gK ();go_step)|apply sY ()|fail)
   go_loopw [8,24] (fun u8 u24 wr=>∃ (i n:Nat) (ao:Option Addr) (ko:Nat) (co:List Value),i≤ps.length∧n≤i∧u8=.slice ao n ko∧u24=.int .i64 (i:Int)∧Hid (n=((ps.take i).filter (fun p=>decide (kP p∈ks))).length)∧RL S co ((ps.take i).filter (fun p=>decide (kP p∈ks)))∧St S (.sl (.slice ao n ko) 63 4 n co::.obj bm (.map es clock)::.box bz DO 27::.box bx (Fw a0 a1 a2 a3 a4 a5 a6 a7 a8 a9 c0 c1 c2 c3 c4 c5 (.slice ua un uc) (.slice pa pn pc)) 27::M) wr) (fun _ v _=>ps.length - (intOf v).toNat)
   case atStart=>exact ⟨0,0,none,0,[],Nat.zero_le _,by omega,rfl,rfl,Lib.hid rfl,RL.nil,hst⟩
   case round =>
    clear hst;obtain ⟨i,n,ao,ko,co,hi,hni,rfl,rfl,hnl,hC,hst⟩:=hrel;have hone:=Bh (k:=0) hst rfl;by_cases hlt:i < ps.length
    ·have hsn:=Ln (fun p:Pn=>decide (kP p∈ks)) ps hlt;have hat:=hkept.out (kP ps[i]);obtain ⟨cq,hcq⟩:=KI hp hlt;have hRk:Rep.R S (A9 (kP ps[i])) (kP ps[i]):=CW (BF hcq).choose_spec.2.2.1 (BF hcq).choose_spec.2.2.2.1;clear hcq cq;by_cases hin:kP ps[i]∈ks
     ·rw [decide_eq_true hin,if_pos rfl] at hsn;rw [if_pos hin] at hat;have hsn:=Lib.hid hsn;clear hin;repeat' ((apply MO ());first|(with_reducible refine kS ?_;refine Jm hst rfl BoxIn.h Ab Ak Aa rfl rfl ?_;clear hst;intro w hst<;>(try refine nY ?_)<;>(try replace hst:=nH hst))|(apply gK ();go_step)|(with_reducible refine kL ?_;refine An hst (Av Ab Ak Aa) ?_;rintro v ⟨cl,rfl,hcl⟩<;>(try refine nY ?_))|(apply sJ ();intro v hp)|(apply sZ ();clear hst;intro bk w hst)|fail)
      refine wp_region_lit ?_;repeat' (first|(apply gK ();go_step)|fail)
      have hclx:=hcl;obtain ⟨sx,rfl,hx0,hx1,hx2,hx3⟩:=BF hcl;clear hcl;rw [show Rep.agg Pn=true from rfl];(try refine nY ?_);have cP:=fun {M:List Chunk} (w:World) (hst:St S M w)=>Dd w hst _ _ hclx
      repeat' (first|(with_reducible (refine Ag hst (Cn (x:=kP ps[i]) (cs:=A9 (kP ps[i])) Ab rfl Aa Aa kr Aa Aa Aa hmap hRk false) ?_;simp only [Bool.false_eq_true,if_false,hat,Option.getD_some,Option.getD_none,Ap])<;>(try refine nY ?_))|(apply gK ();go_step)|(apply kc ();refine sc (cP _ hst) ?_;clear hst;rintro v w ⟨rfl,hst⟩)|(with_reducible refine kL ?_;refine Ag hst (by exact Bl Ab BoxIn.h Aa E5) ?_<;>(try refine nY ?_))|fail)
      refine AA (vs:=[(.agg #[.int .i64 ps[i].1,.int .i64 ps[i].2.1,.int .i64 ps[i].2.2.1,.slice sx.1 sx.2.1 sx.2.2])]) hst Aa Aa rfl rfl (by simp [Value.cells]) rfl (by omega) (by omega) ?_;clear hst;intro u w hst;refine nY ?_;refine AG (j:=0) hst Ab Ab SlIn.h rfl Aa Aa Aa (by simp [Value.cells,Value.oneCell']) (by omega) (by omega) (by decide) ?_;clear hst;intro v' w hst;refine nY ?_;(try replace hst:=nH hst);replace hst:=hst.drop;obtain ⟨ay,cy,rfl⟩:=Go.Sl.sl_formk (k:=1) hst rfl;(try refine nY ?_);repeat' (first|(apply gK ();go_step)|fail)
      go_roundw
      case rel=>exact ⟨i+1,n+1,ay,cy,_,by omega,by omega,rfl,by go_num,Lib.hid (by rw [hsn.out,List.length_append,hnl.out];rfl),by rw [hsn.out];exact hC.append (RL.one_mk hclx),hst.drop⟩
      case measure=>simp [intOf];omega
     ·rw [decide_eq_false hin,if_neg (by decide)] at hsn;rw [if_neg hin] at hat;have hsn:=Lib.hid hsn;clear hin;repeat' ((apply MO ());first|(with_reducible refine kS ?_;refine Jm hst rfl BoxIn.h Ab Ak Aa rfl rfl ?_;clear hst;intro w hst<;>(try refine nY ?_)<;>(try replace hst:=nH hst))|(apply gK ();go_step)|(with_reducible refine kL ?_;refine An hst (Av Ab Ak Aa) ?_;rintro v ⟨cl,rfl,hcl⟩<;>(try refine nY ?_))|(apply sJ ();intro v hp)|(apply sZ ();clear hst;intro bk w hst)|fail)
      refine wp_region_lit ?_;repeat' (first|(apply gK ();go_step)|fail)
      have hclx:=hcl;obtain ⟨sx,rfl,hx0,hx1,hx2,hx3⟩:=BF hcl;clear hcl;rw [show Rep.agg Pn=true from rfl];(try refine nY ?_);have cP:=fun {M:List Chunk} (w:World) (hst:St S M w)=>Dd w hst _ _ hclx
      repeat' (first|(with_reducible (refine Ag hst (Cn (x:=kP ps[i]) (cs:=A9 (kP ps[i])) Ab rfl Aa Aa kr Aa Aa Aa hmap hRk false) ?_;simp only [Bool.false_eq_true,if_false,hat,Option.getD_some,Option.getD_none,Ap])<;>(try refine nY ?_))|(apply gK ();go_step)|(apply kc ();refine sc (cP _ hst) ?_;clear hst;rintro v w ⟨rfl,hst⟩)|(with_reducible refine kL ?_;refine Ag hst (by exact Bl Ab BoxIn.h Aa E5) ?_<;>(try refine nY ?_))|fail)
      go_roundw
      case rel=>exact ⟨i+1,n,ao,ko,co,by omega,by omega,rfl,by go_num,Lib.hid (by rw [hsn.out,hnl.out]),by rw [hsn.out];exact hC,hst.drop⟩
      case measure=>simp [intOf];omega
    ·obtain rfl:i=ps.length:=by omega
     rw [List.take_length,HR.out] at hC hnl;obtain rfl:=hnl.out;obtain ⟨S2,hS2,hst2,hx⟩:=St.freeze (α:=Pn) hst hC rfl;clear hst;have hst:=hst2;clear hst2;have hmap:=hmap.mono hS2;repeat' (first|(apply gK ();go_step)|(with_reducible refine kL ?_;refine Ag hst (by exact Bl Ab BoxIn.h Aa E5) ?_<;>(try refine nY ?_))|apply sY ()|(apply sT ();clear hst;intro w hst)|fail)
     refine FI rfl (AT hst rfl _ BoxIn.h Aa rfl rfl) ?_;(try simp only [AX,List.drop_zero,List.drop_succ_cons,List.take_succ_cons,List.take_zero,As,Ap]);have hRx:Rep.R S2 (Fw a0 a1 a2 a3 a4 a5 a6 a7 a8 a9 c0 c1 c2 c3 c4 c5 (.slice ua un uc) (.slice ao R.length ko)) (((⟨[a0,a1,a2,a3,a4,a5,a6,a7,a8,a9,c0,c1,c2,c3,c4,c5]⟩:Dg),hs,R,()):Br):=Ay (Bi hm16) (Ay (cs:=[_]) ⟨_,rfl,hu.mono hS2⟩ (Ay (cs:=[_]) ⟨_,rfl,hx⟩ Cf));exact ⟨_,rfl,S2,_,hS2,rfl,hRx,hst.drop.drop.drop⟩
end Go.Proofs.YtmmbidoldegemaaGreatDoor
