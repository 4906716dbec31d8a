/- Part 50 of the proof that the law of the last part holds; no conditions. -/
import Derived.Test.YtmmbidoldegemaaGreatDoorZ47
import Derived.Test.YtmmbidoldegemaaGreatDoorZ48
set_option linter.unusedSimpArgs false
set_option linter.unusedVariables false
set_option maxRecDepth 8000
set_option maxHeartbeats 8000000
namespace Go.Proofs.YtmmbidoldegemaaGreatDoor
open Go.RowKit Go.Sl Go.Srt
theorem U8 {ks:List (Int×Int)} {j:Nat} {p:Pn} {f b:Bool} (h:j < ks.length) (hf:f=decide (kP p∈ks.take j)) (hb:(f || (((ks[j]).1 == p.1) && ((ks[j]).2 == p.2.1)))=b):b=decide (kP p∈ks.take (j+1)):=by
 rw [← hb,hf,List.take_succ_eq_append_getElem h,Bool.eq_iff_iff];simp only [Bool.or_eq_true,Bool.and_eq_true,decide_eq_true_eq,beq_iff_eq,List.mem_append,List.mem_singleton];refine or_congr Iff.rfl ⟨fun ⟨a,b⟩=>Prod.ext a.symm b.symm,fun e=>⟨(congrArg Prod.fst e).symm,(congrArg Prod.snd e).symm⟩⟩
set_option maxRecDepth 20000 in
theorem Uu {S M} (w:World) (hst:St S M w) (cs:List Value) (ev:Br) (hR:Rep.R S cs ev) (vk:Value) (ks:List (Int×Int)) (hk:RSl S vk ks) (hm:ev.2.2.1.length≤1000000) (hm2:ks.length≤1048576) :
  Ad Tryz.prog 14 [.agg cs.toArray,vk] w (KZ S M (H3 ev ks)):=by
 unfold Ad;have hx16:ev.1.l.length=16:=hR.2.1.1;have hone1:=Rep.one hR;unfold H3;obtain ⟨R,hRR⟩:∃ R,ev.2.2.1.filter (fun p=>decide (kP p∈ks))=R:=⟨_,rfl⟩
 rw [hRR];have HR:=Lib.hid hRR;clear hRR;go_enter Tryz.func14,Tryz.ntmps14;repeat' ((apply Z0 ());first|(apply gK ();go_step)|fail)
 refine wp_region_lit ?_;refine Fi (cs:=cs) hst Ab rfl ?_;clear hst;intro b1 w hst;(try refine nY ?_);repeat' ((apply Z1 ());first|(apply gK ();go_step)|(apply sZ ();clear hst;intro bk w hst)|fail)
 rename Nat=>bz
 have hst0:St S (.box b1 cs 27::.box bz DO 27::M) _:=hst.move (k:=1) rfl;clear hst;obtain ⟨S2,hS2,hst,hpx⟩:=AC (α:=Br) hst0 hR (Rep.len hR);clear hst0;generalize Value.pointer (some ⟨b1,0,none⟩)=pX at *;replace hk:=hk.mono hS2;clear hR hone1;obtain ⟨m,hs,xs,⟨⟩⟩:=ev;obtain ⟨a0,a1,a2,a3,a4,a5,a6,a7,a8,a9,d0,d1,d2,d3,d4,d5,rfl⟩:=LM hx16;simp only at hm HR ⊢;refine wp_region_lit ?_;repeat' (first|(with_reducible refine kU ?_;refine Ag hst (Cz (cs:=Fw a0 a1 a2 a3 a4 a5 a6 a7 a8 a9 d0 d1 d2 d3 d4 d5 (.slice ua un uc) (.slice none 0 0)) Aa Aa kr) ?_<;>(try refine nY ?_))|(apply gK ();go_step)|(with_reducible refine kL ?_;refine An hst (Ae (y:=hs) Ab Ak Aa) ?_;rintro vh ⟨hvh,hvh1⟩;obtain ⟨ua,un,uc,rfl⟩:=KH hvh<;>(try refine nY ?_))|apply sP ()|(apply sJ ();intro v hp)|(apply sT ();clear hst;intro w hst)|(apply sZ ();clear hst;intro bk w hst)|fail)
 rename Nat=>bk
 replace hst:=hst.nil 63 4
 go_loopw [6,7,8] (fun u6 _ _ wr=>∃ (i n:Nat) (T:Ac) (pq0:Option Addr) (pc:Nat) (co:List Value),i≤xs.length∧n≤i∧S2.Le T∧u6=.int .i64 (i:Int)∧Hid (n=((xs.take i).filter (fun p=>decide (kP p∈ks))).length)∧RL T co ((xs.take i).filter (fun p=>decide (kP p∈ks)))∧St T (.sl (.slice pq0 n pc) 63 4 n co::.box bk (Fw a0 a1 a2 a3 a4 a5 a6 a7 a8 a9 d0 d1 d2 d3 d4 d5 (.slice ua un uc) (.slice pq0 n pc)) 27::.box bz DO 27::M) wr) (fun v _ _ _=>xs.length - (intOf v).toNat)
 case atStart=>exact ⟨0,0,S2,none,0,[],Nat.zero_le _,Nat.le_refl _,Ac.Le.refl S2,rfl,Lib.hid rfl,RL.nil,hst⟩
 case round =>
  clear hst;obtain ⟨i,n,T,pq0,pc,co,hi,hni,hT,rfl,HL,hC,hst⟩:=hrel;have hone:=Bh (k:=0) hst rfl;replace hpx:=Pt.mono hT hpx;replace hk:=hk.mono hT;by_cases hlt:i < xs.length
  ·have hsn:=Ln (fun p:Pn=>decide (kP p∈ks)) xs hlt;have hp1:([xs[i]]:List Pn).length=1:=rfl;repeat' ((apply Z7 ());first|(apply gK ();go_step)|(with_reducible refine kL ?_;refine An hst (Ae (y:=xs) Ab Ak Aa) ?_;rintro vx ⟨hvx,hvx1⟩<;>(try refine nY ?_))|apply sY ()|(apply sJ ();intro v hp)|fail)
   go_loopw [7,8] (fun u7 u8 wr=>∃ (j:Nat) (f:Bool),j≤ks.length∧u7=.bool f∧u8=.int .i64 (j:Int)∧Hid (f=decide (kP xs[i]∈ks.take j))∧St T (.sl (.slice pq0 n pc) 63 4 n co::.box bk (Fw a0 a1 a2 a3 a4 a5 a6 a7 a8 a9 d0 d1 d2 d3 d4 d5 (.slice ua un uc) (.slice pq0 n pc)) 27::.box bz DO 27::M) wr) (fun _ v _=>ks.length - (intOf v).toNat)
   case atStart=>exact ⟨0,false,Nat.zero_le _,rfl,rfl,Lib.hid (by simp),hst⟩
   case round =>
    clear hst;obtain ⟨j,f,hj,rfl,rfl,HF,hst⟩:=hrel;by_cases hjt:j < ks.length
    ·have HJ:=Lib.hid (fun b=>U8 (p:=xs[i]) (b:=b) hjt HF.out);obtain ⟨z1,hz1⟩:∃ z,((ks[j]).1 == (xs[i]).1)=z:=⟨_,rfl⟩
     obtain ⟨z2,hz2⟩:∃ z,((ks[j]).2 == (xs[i]).2.1)=z:=⟨_,rfl⟩
     rw [hz1,hz2] at HJ;have HQ:=HJ.out _ rfl
     cases f<;>cases z1<;>cases z2 <;>
     ·have HF1:=Lib.hid HQ;clear HQ HJ HF hsn;repeat' ((apply Z9 ());first|(apply gK ();go_step)|apply sY ()|fail)
      refine AN hst kr ?_;clear hst;intro w hst;have hSS:=Bk hst;(try refine nY ?_);refine pd 0 rfl ?_;refine pd 1 rfl ?_;first|refine pd 2 rfl ?_|refine pz 2 rfl ?_
      first|refine pd 3 rfl ?_|refine pz 3 rfl ?_
      first|(refine px 4 rfl (Ao Ab hk rfl Aa Aa Af Af) ?_;rintro v4 hp4;replace hp4:=iN hp4)|refine pz 4 rfl ?_
      first|(refine px 5 rfl (Jv Ab hp4 rfl Aa Aa) ?_;rintro v5 hp5)|refine pz 5 rfl ?_
      first|(refine px 6 rfl (Am Ab hp5 Aa) ?_;rintro v6 ⟨rfl,hI6⟩)|refine pz 6 rfl ?_
      first|(refine px 7 rfl (Ah Ab hpx Aa Aa rfl) ?_;rintro v7 hp7)|refine pz 7 rfl ?_
      first|(refine px 8 rfl (Ae (y:=xs) Ab hp7 Aa) ?_;rintro v8 ⟨hv8,hv81⟩)|refine pz 8 rfl ?_
      first|refine pd 9 rfl ?_|refine pz 9 rfl ?_
      first|(refine px 10 rfl (Ao Ab hv8 rfl Aa Aa Af Af) ?_;rintro v10 hp10;replace hp10:=iN hp10)|refine pz 10 rfl ?_
      first|(refine px 11 rfl (Ah Ab hp10 Aa Aa rfl) ?_;rintro v11 hp11)|refine pz 11 rfl ?_
      first|(refine px 12 rfl (Am Ab hp11 Aa) ?_;rintro v12 ⟨rfl,hI12⟩)|refine pz 12 rfl ?_
      first|refine pt 13 rfl (C6 rfl rfl hz1) ?_|refine pz 13 rfl ?_
      first|refine pd 14 rfl ?_|refine pz 14 rfl ?_
      first|refine pd 15 rfl ?_|refine pz 15 rfl ?_
      first|refine pd 16 rfl ?_|refine pz 16 rfl ?_
      first|(refine px 17 rfl (Ao Ab hk rfl Aa Aa Af Af) ?_;rintro v17 hp17;replace hp17:=iN hp17)|refine pz 17 rfl ?_
      first|(refine px 18 rfl (Ju Ab hp17 rfl Aa Aa) ?_;rintro v18 hp18)|refine pz 18 rfl ?_
      first|(refine px 19 rfl (Am Ab hp18 Aa) ?_;rintro v19 ⟨rfl,hI19⟩)|refine pz 19 rfl ?_
      first|(refine px 20 rfl (Ah Ab hpx Aa Aa rfl) ?_;rintro v20 hp20)|refine pz 20 rfl ?_
      first|(refine px 21 rfl (Ae (y:=xs) Ab hp20 Aa) ?_;rintro v21 ⟨hv21,hv211⟩)|refine pz 21 rfl ?_
      first|refine pd 22 rfl ?_|refine pz 22 rfl ?_
      first|(refine px 23 rfl (Ao Ab hv21 rfl Aa Aa Af Af) ?_;rintro v23 hp23;replace hp23:=iN hp23)|refine pz 23 rfl ?_
      first|(refine px 24 rfl (Ah Ab hp23 Aa Aa rfl) ?_;rintro v24 hp24)|refine pz 24 rfl ?_
      first|(refine px 25 rfl (Am Ab hp24 Aa) ?_;rintro v25 ⟨rfl,hI25⟩)|refine pz 25 rfl ?_
      first|refine pt 26 rfl (C6 rfl rfl hz2) ?_|refine pz 26 rfl ?_
      first|refine pt 27 rfl (by first|exact In rfl Ab|exact GL rfl Ab) ?_|refine pz 27 rfl ?_
      refine pt 28 rfl (by first|exact In rfl Ab|exact GL rfl Ab) ?_;refine pd 29 rfl ?_;refine Az kr ?_;repeat' (first|(apply gK ();go_step)|fail)
      go_roundw
      case rel=>exact ⟨j+1,_,by omega,rfl,by go_num,HF1,hst⟩
      case measure=>simp [intOf]<;>omega
    ·obtain rfl:j=ks.length:=by omega
     have HF2:=HF.out;rw [List.take_length] at HF2
     cases f with
     | true =>
      rw [← HF2,if_pos rfl] at hsn;have HSN:=Lib.hid hsn;clear HF HF2 hsn;repeat' ((apply MO ());first|(apply gK ();go_step)|apply sY ()|fail)
      refine AN hst kr ?_;clear hst;intro w hst;have hSS:=Bk hst;(try refine nY ?_);refine pd 0 rfl ?_;refine px 2 rfl (Ah Ab hpx Aa Aa rfl) ?_;rintro v2 hp2;refine px 3 rfl (Ae (y:=xs) Ab hp2 Aa) ?_;rintro v3 ⟨hv3,hv31⟩;refine pd 4 rfl ?_;refine px 5 rfl (Ao Ab hv3 rfl Aa Aa Af Af) ?_;rintro v5 hp5;replace hp5:=iN hp5;refine px 6 rfl (Av (y:=xs[i]) Ab hp5 Aa) ?_;rintro v6 ⟨c6,rfl,hc6⟩;have hc6x:=hc6;obtain ⟨s6,rfl,_,_,_,_⟩:=BF hc6x;clear hc6x;refine BQ 1 7 rfl rfl kr ?_ ?_;intro K hK;refine Ag hst (AM rfl _ BoxIn.h Aa rfl rfl) ?_;refine pn hK ?_;clear hK K;refine po 7 rfl ?_;intro K hK;refine AA (vs:=[.agg #[.int .i64 (xs[i]).1,.int .i64 (xs[i]).2.1,.int .i64 (xs[i]).2.2.1,.slice s6.1 s6.2.1 s6.2.2]]) hst Aa Aa rfl rfl (by simp [Value.cells]) rfl (by omega) (by omega) ?_;clear hst;intro x7 w hst0;obtain ⟨S7,hS7,hst,hX7⟩:=St.freeze (α:=Pn) (xs:=[xs[i]]) hst0 (RL.one_mk (Rep.mono hSS hc6)) rfl;clear hst0;(try replace hst:=nH hst);replace hSS:=hSS.trans hS7;refine pn hK ?_;clear hK K;refine po 8 rfl ?_;intro K hK;refine A2 hst Ab Ab SlIn.h hX7 Aa Aa Aa (by omega) (by omega) (by decide) ?_;clear hst;intro x8 w d8 hd8 hst;obtain ⟨ay,cy,rfl⟩:=Go.Sl.sl_formk (k:=0) hst rfl;(try replace hst:=nH hst);refine pn hK ?_;clear hK K;refine pd 9 rfl ?_;refine po 10 rfl ?_;intro K hK;(refine EV hst rfl BoxIn.h Ab Ak Aa (by simp<;>omega) ?_);clear hst;intro w hst;(try replace hst:=nH hst);refine pn hK ?_;clear hK K;refine Az kr ?_;rotate_left
      intro K hK;refine AA (vs:=[.agg #[.int .i64 (xs[i]).1,.int .i64 (xs[i]).2.1,.int .i64 (xs[i]).2.2.1,.slice s6.1 s6.2.1 s6.2.2]]) hst Aa Aa rfl rfl (by simp [Value.cells]) rfl (by omega) (by omega) ?_;clear hst;intro x7 w hst0;obtain ⟨S7,hS7,hst,hX7⟩:=St.freeze (α:=Pn) (xs:=[xs[i]]) hst0 (RL.one_mk (Rep.mono hSS hc6)) rfl;clear hst0;(try replace hst:=nH hst);replace hSS:=hSS.trans hS7;refine pn hK ?_;clear hK K;refine po 1 rfl ?_;intro K hK;refine Ag hst (AM rfl _ BoxIn.h Aa rfl rfl) ?_;refine pn hK ?_;clear hK K;refine po 8 rfl ?_;intro K hK;refine A2 hst Ab Ab SlIn.h hX7 Aa Aa Aa (by omega) (by omega) (by decide) ?_;clear hst;intro x8 w d8 hd8 hst;obtain ⟨ay,cy,rfl⟩:=Go.Sl.sl_formk (k:=0) hst rfl;(try replace hst:=nH hst);refine pn hK ?_;clear hK K;refine pd 9 rfl ?_;refine po 10 rfl ?_;intro K hK;(refine EV hst rfl BoxIn.h Ab Ak Aa (by simp<;>omega) ?_);clear hst;intro w hst;(try replace hst:=nH hst);refine pn hK ?_;clear hK K;refine Az kr ?_;rotate_left
      all_goals
       repeat' (first|(apply gK ();go_step)|fail)
       go_roundw
       case rel=>exact ⟨i+1,n+1,_,ay,cy,_,by omega,by omega,hT.trans hSS,by go_num,Lib.hid (by rw [HSN.out,List.length_append,HL.out];rfl),by rw [HSN.out];exact (hC.mono hSS).append hd8,hst⟩
       case measure=>simp [intOf]<;>omega
     | false =>
      rw [← HF2,if_neg (by decide)] at hsn;have HSN:=Lib.hid hsn;clear HF HF2 hsn;repeat' (first|(apply gK ();go_step)|apply sY ()|fail)
      go_roundw
      case rel=>exact ⟨i+1,n,T,pq0,pc,co,by omega,by omega,hT,by go_num,Lib.hid (by rw [HSN.out];exact HL.out),by rw [HSN.out];exact hC,hst⟩
      case measure=>simp [intOf]<;>omega
  ·obtain rfl:i=xs.length:=by omega
   rw [List.take_length,HR.out] at hC HL;obtain rfl:=HL.out;obtain ⟨S3,hS3,hst2,hX⟩:=St.freeze (α:=Pn) hst hC rfl;clear hst;have hst:=hst2;clear hst2;replace hpx:=Pt.mono hS3 hpx;have hle:=hS2.trans (hT.trans hS3);repeat' (first|(apply gK ();go_step)|(with_reducible refine kL ?_;refine An hst (Ae (y:=xs) Ab Ak Aa) ?_;rintro vx ⟨hvx,hvx1⟩<;>(try refine nY ?_))|(with_reducible refine kL ?_;refine Ag hst (by exact Bl Ab BoxIn.h Aa E5) ?_<;>(try refine nY ?_))|apply sY ()|(apply sJ ();intro v hp)|(apply sT ();clear hst;intro w hst)|fail)
   refine FI rfl (AT hst rfl _ BoxIn.h Aa rfl rfl) ?_;(try simp only [AX,List.drop_zero,List.drop_succ_cons,List.take_succ_cons,List.take_zero,As,Ap]);have hRx:Rep.R S3 (Fw a0 a1 a2 a3 a4 a5 a6 a7 a8 a9 d0 d1 d2 d3 d4 d5 (.slice ua un uc) (.slice pq0 R.length pc)) (((⟨[a0,a1,a2,a3,a4,a5,a6,a7,a8,a9,d0,d1,d2,d3,d4,d5]⟩:Dg),hs,R,()):Br):=Ay (Bi hx16) (Ay (cs:=[_]) ⟨_,rfl,hvh.mono (hT.trans hS3)⟩ (Ay (cs:=[_]) ⟨_,rfl,hX⟩ Cf));exact ⟨_,rfl,S3,_,hle,rfl,hRx,hst.drop.drop⟩
theorem ZA (x:Br) (ks:List (Int×Int)):(H3 x ks).2.1.length≤x.2.1.length∧(H3 x ks).2.2.1.length≤x.2.2.1.length∧∀ p∈(H3 x ks).2.2.1,p∈x.2.2.1:=⟨Nat.le_refl _,List.length_filter_le _ _,fun p hp=>(List.mem_filter.1 hp).1⟩
set_option maxRecDepth 60000 in
theorem eH {S M} (w:World) (hst:St S M w) (hG:Bo S) (c1:List Value) (x:Br) (hx:Rep.R S c1 x) (c2:List Value) (y:Br) (hy:Rep.R S c2 y) (vk:Value) (ks:List (Int×Int)) (hk:RSl S vk ks) (_hm:ks.length≤1048576) :
  Ad Tryz.prog 3 [.agg c1.toArray,.agg c2.toArray,vk] w fun v w'=>v=.bool true∧St S M w':=by
 unfold Ad;have hone1:=Rep.one hx;have hone2:=Rep.one hy;have hkl1:=hk.oneCell;go_enter Tryz.func3,Tryz.ntmps3;repeat' ((apply Z0 ());first|(apply gK ();go_step)|fail)
 refine wp_region_lit ?_;refine Fi (cs:=c1) hst Ab rfl ?_;clear hst;intro b1 w hst;(try refine nY ?_);refine Fi (cs:=c2) hst Ab rfl ?_;clear hst;intro b2 w hst;(try refine nY ?_);repeat' ((apply Z1 ());first|(apply gK ();go_step)|fail)
 obtain ⟨S1,hS1,hst1,hpy⟩:=AC (α:=Br) hst hy (Rep.len hy);clear hst;obtain ⟨S2,hS2,hst,hpx⟩:=AC (α:=Br) hst1 (Rep.mono hS1 hx) (Rep.len hx);clear hst1;replace hpy:=Pt.mono hS2 hpy;generalize Value.pointer (some ⟨b1,0,none⟩)=pX at *;generalize Value.pointer (some ⟨b2,0,none⟩)=pY at *;have hle2:=hS1.trans hS2;have hG2:=hG.mono hle2;have hkS:=hk.mono hle2;clear hx hy hS1 hS2 hk hG;obtain ⟨z,hz⟩:∃ z,decide ((ks.length:Int) > 60)=z:=⟨_,rfl⟩
 have cFx:=fun {M:List Chunk} (w:World) (hst:St S2 M w) (ca:List Value) (hA:Rep.R S2 ca x)=>Rr w hst ca x hA
 have cFy:=fun {M:List Chunk} (w:World) (hst:St S2 M w) (ca:List Value) (hA:Rep.R S2 ca y)=>Rr w hst ca y hA
 repeat' ((apply Z2 ());first|go_skip|apply sK ()|apply sG ()|(apply gK ();go_step)|(with_reducible refine kL ?_;(first|(refine An hst (Av (y:=x) Ab hpx Aa) ?_;rintro v54 ⟨cx,rfl,hcx⟩)|(refine An hst (Av (y:=y) Ab hpy Aa) ?_;rintro v55 ⟨cy,rfl,hcy⟩))<;>(try refine nY ?_))|(apply kc ();refine sc (cFx _ hst _ hcx) ?_;clear hst;rintro v w ⟨hst,(_|_),rfl,hFx⟩)|(apply kc ();refine sc (cFy _ hst _ hcy) ?_;clear hst;rintro v w ⟨hst,(_|_),rfl,hFy⟩)|apply sY ()|fail)
 rotate_left 3
 ·obtain ⟨x1,x2,x3⟩:=hFx rfl;obtain ⟨y1,y2,y3⟩:=hFy rfl
  have hkm:ks.length≤60:=by
   have:=of_decide_eq_false (hz.trans (by assumption));omega
  have mb:=UY x y;have cM:=fun {M:List Chunk} (w:World) (hst:St S2 M w) (c1:List Value) (h1:Rep.R S2 c1 x) (c2:List Value) (h2:Rep.R S2 c2 y)=>PL w hst c1 x h1 c2 y h2 (by omega) (by omega) (by omega)
  have cN:=fun {S:Ac} {M:List Chunk} (w:World) (hst:St S M w) (c1:List Value) (h1:Rep.R S c1 x) (c2:List Value) (h2:Rep.R S c2 y)=>W4 w hst c1 x h1 c2 y h2 (by omega) (by omega) (by omega)
  generalize Dp x y=R at *;obtain ⟨R,e⟩:=R;obtain ⟨m1,m2,m3⟩:=mb;simp only at m1 m2 m3;have m4:∀ p∈R.2.2.1,p.2.2.2.1.length≤1000000:=fun p hp=>(m3 p hp).elim (fun h=>Nat.le_trans (x3 p h) (by decide)) (fun h=>Nat.le_trans (y3 p h) (by decide))
  have rb:=ZA x ks;have cR:=fun {S:Ac} {M:List Chunk} (w:World) (hst:St S M w) (c1:List Value) (h1:Rep.R S c1 x) (hk:RSl S vk ks)=>LB w hst c1 x h1 vk ks hk (by omega) (by omega)
  have cQ:=fun {S:Ac} {M:List Chunk} (w:World) (hst:St S M w) (c1:List Value) (h1:Rep.R S c1 x) (hk:RSl S vk ks)=>Uu w hst c1 x h1 vk ks hk (by omega) (by omega)
  generalize H3 x ks=D at *;obtain ⟨d1,d2,d3⟩:=rb;have d4:∀ p∈D.2.2.1,p.2.2.2.1.length≤1000000:=fun p hp=>Nat.le_trans (x3 p (d3 p hp)) (by decide)
  have cS:=fun {S:Ac} {M:List Chunk} (w:World) (hst:St S M w) (ca cb:List Value) (hA:Rep.R S ca R) (hB:Rep.R S cb R)=>OM w hst ca cb R hA hB (by omega) (by omega) m4
  have cT:=fun {S:Ac} {M:List Chunk} (w:World) (hst:St S M w) (ca cb:List Value) (hA:Rep.R S ca D) (hB:Rep.R S cb D)=>OM w hst ca cb D hA hB (by omega) (by omega) d4
  clear x1 x2 x3 y1 y2 y3 m1 m2 m3 m4 d1 d2 d3 d4 hkm hz cFx cFy hFx hFy;repeat' (first|(apply gK ();go_step)|(apply kc ();refine sc (cM _ hst _ hcx _ hcy) ?_;clear hst;rintro v w ⟨S3,ca,hS3,rfl,hRa,hst⟩)|(apply sZ ();clear hst;intro bk w hst)|fail)
  refine CN hst rfl BoxIn.h Aa rfl hRa rfl ?_;clear hst;intro w hst;(try refine nY ?_);(try replace hst:=nH hst);rename Nat=>bA
  repeat' ((apply Z4 ());first|(apply gK ();go_step)|fail)
  obtain ⟨S4,hS4,hst1,hpa⟩:=AC (α:=Br) hst hRa (Rep.len hRa);clear hst;have hst:=hst1;clear hst1;generalize Value.pointer (some ⟨bA,0,none⟩)=pA at *;have hpx4:=Pt.mono (hS3.trans hS4) hpx;have hpy4:=Pt.mono (hS3.trans hS4) hpy;clear hpx hpy hcx hcy hRa;repeat' (first|(apply gK ();go_step)|(with_reducible refine kL ?_;(first|(refine An hst (Av (y:=x) Ab hpx4 Aa) ?_;rintro v54 ⟨cx4,rfl,hcx⟩)|(refine An hst (Av (y:=y) Ab hpy4 Aa) ?_;rintro v55 ⟨cy4,rfl,hcy⟩))<;>(try refine nY ?_))|(apply kc ();refine sc (cN _ hst _ hcx _ hcy) ?_;clear hst;rintro v w ⟨S5,cb,hS5,rfl,hRb,hst⟩)|(apply sZ ();clear hst;intro bk w hst)|fail)
  refine CN hst rfl BoxIn.h Aa rfl hRb rfl ?_;clear hst;intro w hst;(try refine nY ?_);(try replace hst:=nH hst);rename Nat=>bB
  repeat' ((apply Z5 ());first|(apply gK ();go_step)|fail)
  obtain ⟨S6,hS6,hst1,hpb⟩:=AC (α:=Br) hst hRb (Rep.len hRb);clear hst;have hst:=hst1;clear hst1;generalize Value.pointer (some ⟨bB,0,none⟩)=pB at *;have hpx6:=Pt.mono (hS5.trans hS6) hpx4;have hpa6:=Pt.mono (hS5.trans hS6) hpa;have hle6:=hle2.trans ((hS3.trans hS4).trans (hS5.trans hS6));have hG6:=hG2.mono ((hS3.trans hS4).trans (hS5.trans hS6));have hk6:=hkS.mono ((hS3.trans hS4).trans (hS5.trans hS6));clear hpx4 hpy4 hpa hRb hle2 hG2 hkS hS3 hS4 hS5 hS6 cM cN;refine AN hst kr ?_;clear hst;intro w hst;have hSS:=Bk hst;(try refine nY ?_);refine po 0 rfl ?_;intro K hK;refine sc (Vz w hst (hG6.mono hSS)) ?_;clear hst;rintro v0 w ⟨rfl,hst⟩;refine pn hK ?_;clear hK K;refine pd 1 rfl ?_;refine px 2 rfl (Av (y:=R) Ab hpa6 Aa) ?_;rintro v2 ⟨c2,rfl,hc2⟩;refine px 3 rfl (Av (y:=R) Ab hpb Aa) ?_;rintro v3 ⟨c3,rfl,hc3⟩;refine po 4 rfl ?_;intro K hK;refine Sl.guard_yes rfl ?_;refine sc (cS w hst c2 c3 (Rep.mono hSS hc2) (Rep.mono hSS hc3)) ?_;clear hst;rintro v4 w ⟨rfl,hst⟩;refine pn hK ?_;clear hK K;refine pd 5 rfl ?_;refine pd 6 rfl ?_;refine pd 7 rfl ?_;refine pd 8 rfl ?_;refine pt 9 rfl (C6 rfl rfl (beq_self_eq_true e)) ?_;refine pd 10 rfl ?_;refine pd 11 rfl ?_;refine px 12 rfl (Av (y:=x) Ab hpx6 Aa) ?_;rintro v12 ⟨c12,rfl,hc12⟩;refine pd 13 rfl ?_;refine px 15 rfl (Av (y:=x) Ab hpx6 Aa) ?_;rintro v15 ⟨c15,rfl,hc15⟩;refine pd 16 rfl ?_
  refine po 14 rfl ?_;intro K hK;refine Sl.guard_yes rfl ?_;refine sc (cR w hst c12 (Rep.mono hSS hc12) (hk6.mono hSS)) ?_;clear hst;rintro v14 w ⟨T14,c14,hT14,rfl,hR14,hst⟩;replace hSS:=hSS.trans hT14;refine pn hK ?_;clear hK K;refine po 17 rfl ?_;intro K hK;refine Sl.guard_yes rfl ?_;refine sc (cQ w hst c15 (Rep.mono hSS hc15) (hk6.mono hSS)) ?_;clear hst;rintro v17 w ⟨T17,c17,hT17,rfl,hR17,hst⟩;replace hSS:=hSS.trans hT17;refine pn hK ?_;clear hK K;refine po 18 rfl ?_;intro K hK;refine Sl.guard_yes rfl ?_;refine sc (cT w hst c14 c17 (Rep.mono hT17 hR14) hR17) ?_;clear hst;rintro v18 w ⟨rfl,hst⟩;refine pn hK ?_;clear hK K;refine pd 19 rfl ?_;refine pd 20 rfl ?_;refine Az kr ?_;repeat' (first|(apply gK ();go_step)|fail)
  go_ret;exact ⟨_,rfl,rfl,St.weaken (hle6.trans hSS) hst⟩
 all_goals
  repeat' (first|(apply gK ();go_step)|(apply kc ();refine sc (Vz _ hst hG2) ?_;clear hst;rintro v w ⟨rfl,hst⟩)|fail)
  go_ret;exact ⟨_,rfl,rfl,St.weaken hle2 hst⟩
end Go.Proofs.YtmmbidoldegemaaGreatDoor
