/- Part 49 of the proof that the law of the last part holds; no conditions. -/
import Derived.Test.YtmmbidoldegemaaGreatDoorZ46
set_option linter.unusedSimpArgs false
set_option linter.unusedVariables false
set_option maxRecDepth 8000
set_option maxHeartbeats 8000000
namespace Go.Sl
open Go.RowKit
section
variable {P:Program} {lo:List Oper} {Q:Exit→Act→World→Prop} {K:Act→World→Prop} {S S0:Ac} {M:List Chunk} {l:List Value} {D:List Deferred} {w:World} {bs:List Bool} {f:Nat} {o:Oper} {v:Value}
theorem yt1 (k:Nat) (ho:lo[k]? = some o) (hw:Region.wanted o (yielded lo.toArray l.toArray)=true) (hq:Qt P l o.op S0 [] v) (h:Dx P lo Q S0 f (bs.set k true) (A0 l o.dst v) D w) (hQ:EN Q:=by repeat (first|with_reducible refine Gy ?_|with_reducible refine F0 ?_|exact Gz)) (hs:Region.noSelect lo.toArray=true:=by kernel_rfl) (hf:Region.free .any lo.toArray bs.toArray k=true:=by kernel_rfl) (hr:(Region.ready .any lo.toArray bs.toArray).contains k=true:=by kernel_rfl) (hc:St S0 [] w:=by exact St.cls hSS hst):Dx P lo Q S0 (f+1) bs l D w:=M9 k hQ ho hs hf hr hw hc hq h
theorem yt2 (k:Nat) {F:Value→Prop} (ho:lo[k]? = some o) (hw:Region.wanted o (yielded lo.toArray l.toArray)=true) (hq:∃ v,F v∧Qt P l o.op S0 [] v) (h:∀ v,F v→Dx P lo Q S0 f (bs.set k true) (A0 l o.dst v) D w) (hQ:EN Q:=by repeat (first|with_reducible refine Gy ?_|with_reducible refine F0 ?_|exact Gz)) (hs:Region.noSelect lo.toArray=true:=by kernel_rfl) (hf:Region.free .any lo.toArray bs.toArray k=true:=by kernel_rfl) (hr:(Region.ready .any lo.toArray bs.toArray).contains k=true:=by kernel_rfl) (hc:St S0 [] w:=by exact St.cls hSS hst):Dx P lo Q S0 (f+1) bs l D w:=Xi k hQ ho hs hf hr hw hc hq h
theorem yt3 (k:Nat) (ho:lo[k]? = some o) (hw:Region.wanted o (yielded lo.toArray l.toArray)=false) (h:Dx P lo Q S0 f (bs.set k true) (A0 l o.dst undef) D w) (hQ:EN Q:=by repeat (first|with_reducible refine Gy ?_|with_reducible refine F0 ?_|exact Gz)) (hs:Region.noSelect lo.toArray=true:=by kernel_rfl) (hf:Region.free .any lo.toArray bs.toArray k=true:=by kernel_rfl) (hr:(Region.ready .any lo.toArray bs.toArray).contains k=true:=by kernel_rfl) (hc:St S0 [] w:=by exact St.cls hSS hst):Dx P lo Q S0 (f+1) bs l D w:=UM k hQ ho hs hf hr hw hc h
end
end Go.Sl
namespace Go.Proofs.YtmmbidoldegemaaGreatDoor
open Go.RowKit Go.Sl Go.Srt
theorem QE {a:List Pn} {i:Nat} {k:Int×Int} {p:Pn} {q:Pn} {f:Bool} (hs:A4 (a.take (i+1)) k=if kP p=k then A4 (a.take i) k++[BM p] else A4 (a.take i) k) (hn:kP p=k→False) (h:(f=true↔A4 (a.take i) k≠[])∧(A4 (a.take i) k).any (fun n=>decide (n≠BM q))=false) :
  (f=true↔A4 (a.take (i+1)) k≠[])∧(A4 (a.take (i+1)) k).any (fun n=>decide (n≠BM q))=false:=by
 rw [hs,if_neg hn];exact h
theorem Wp {a:List Pn} {i:Nat} {k:Int×Int} {p:Pn} {q:Pn} {f:Bool} (hs:A4 (a.take (i+1)) k=if kP p=k then A4 (a.take i) k++[BM p] else A4 (a.take i) k) (hn:kP p=k) (he:p.2.2.1=q.2.2.1) (h:(f=true↔A4 (a.take i) k≠[])∧(A4 (a.take i) k).any (fun n=>decide (n≠BM q))=false) :
  (true=true↔A4 (a.take (i+1)) k≠[])∧(A4 (a.take (i+1)) k).any (fun n=>decide (n≠BM q))=false:=by
 rw [hs,if_pos hn];refine ⟨⟨fun _=>by simp,fun _=>rfl⟩,?_⟩;rw [List.any_append,h.2];have:BM p=BM q:=he;simp [this]
theorem Zw {a:List Pn} {i:Nat} {p:Pn} {r out:List Pn} (h:i < a.length) (hk:kP a[i]=kP p) (hn:(a[i]).2.2.1≠p.2.2.1):GK a (p::r) out=none:=by
 rw [GK,if_pos];rw [List.any_eq_true];exact ⟨BM a[i],Wq h hk,decide_eq_true hn⟩
theorem Zv {a:List Pn} {p:Pn} {r out:List Pn} (h:A4 a (kP p)≠[]) (h2:(A4 a (kP p)).any (fun n=>decide (n≠BM p))=false):GK a (p::r) out=GK a r out:=by
 rw [GK,if_neg (by rw [h2];simp),if_neg h]
theorem cu {a:List Pn} {p:Pn} {r out:List Pn} (h:A4 a (kP p)=[]) (h2:(A4 a (kP p)).any (fun n=>decide (n≠BM p))=false):GK a (p::r) out=GK a r (Dh kP out p):=by
 rw [GK,if_neg (by rw [h2];simp),if_pos h]
set_option maxRecDepth 20000 in
theorem W4 {S M} (w:World) (hst:St S M w) (c1:List Value) (x:Br) (hx:Rep.R S c1 x) (c2:List Value) (y:Br) (hy:Rep.R S c2 y) (hmx:x.2.2.1.length≤100000) (hmy:y.2.2.1.length≤100000) (hmh:x.2.1.length≤100000) :
  Ad Tryz.prog 11 [.agg c1.toArray,.agg c2.toArray] w (Wc S M (Dp x y)):=by
 unfold Ad;have hx16:x.1.l.length=16:=hx.2.1.1;have hy16:y.1.l.length=16:=hy.2.1.1;obtain ⟨R,hR⟩:∃ R,Dp x y=R:=⟨_,rfl⟩
 rw [hR];rw [XC] at hR;have HR:=Lib.hid hR;clear hR;have hone1:=Rep.one hx;have hone2:=Rep.one hy;go_enter Tryz.func11,Tryz.ntmps11;repeat' ((fail_if_success (with_reducible show Code.wp _ (Code.region 0 _ _) _ _ _));((fail_if_success (go_big_may));(go_step)))
 refine wp_region_lit ?_;refine Fi (cs:=c1) hst Ab rfl ?_;clear hst;intro b1 w hst;(try refine nY ?_);refine Fi (cs:=c2) hst Ab rfl ?_;clear hst;intro b2 w hst;(try refine nY ?_);repeat' ((fail_if_success (with_reducible show Code.wp _ (Code.region 1 _ _) _ _ _));first|((fail_if_success (go_big_may));(go_step))|(((((refine Bv hst Aa ?_;clear hst;intro bk w hst))))<;>(try refine nY ?_)<;>(try replace hst:=nH hst)))
 rename Nat=>bE
 have hst0:St S (.box b2 c2 27::.box bE DO 27::.box b1 c1 27::M) _:=hst.move (k:=1) rfl;clear hst;obtain ⟨S1,hS1,hst1,hpy⟩:=AC (α:=Br) hst0 hy (Rep.len hy);clear hst0;have hst0:St S1 (.box b1 c1 27::.box bE DO 27::M) _:=hst1.move (k:=1) rfl;clear hst1;obtain ⟨S2,hS2,hst,hpx⟩:=AC (α:=Br) hst0 (Rep.mono hS1 hx) (Rep.len hx);clear hst0;replace hpy:=Pt.mono hS2 hpy;generalize Value.pointer (some ⟨b1,0,none⟩)=pX at *;generalize Value.pointer (some ⟨b2,0,none⟩)=pY at *;have hle2:=hS1.trans hS2;have hcx:=Rep.mono hle2 hx;have hcy:=Rep.mono hle2 hy;clear hx hy hS1 hS2;by_cases hm:x.1=y.1
 ·have hz1:decide (x.1=y.1)=true:=decide_eq_true hm;by_cases hh:x.2.1=y.2.1
  ·have HM:Hid (cv x (GK x.2.2.1 y.2.2.1 (x.2.2.1.foldl (Dh kP) []))=R):=Lib.hid (by rw [← HR.out,if_pos ⟨hm,hh⟩]);have cEq:=fun {M:List Chunk} (w:World) (hst:St S2 M w) (va vb:Value) (ha:RSl S2 va x.2.1) (hb:RSl S2 vb y.2.1)=>K8 w hst va vb x.2.1 y.2.1 ha hb (by omega)
   rw [decide_eq_true hh] at cEq;clear HR hm hh;repeat' ((fail_if_success (with_reducible show Code.wp _ (Code.region 3 _ _) _ _ _));first|((first|(with_reducible (refine Sl.k_load ?_;refine An hst (Ae (y:=x.2.1) Ab Ak Aa) ?_;rintro vha ⟨hvha,hvha1⟩))|(with_reducible (refine Sl.k_load ?_;refine An hst (Ae (y:=y.2.1) Ab Ak Aa) ?_;rintro vhb ⟨hvhb,hvhb1⟩))|(with_reducible refine Sl.k_bin ?_;(refine Ag hst (Dc rfl rfl (Bi hx16) (Bi hy16) Aa Aa inferInstance hz1) ?_))|(with_reducible refine Sl.k_guard ?_;((refine Sl.guard_yes rfl ?_))))<;>(try refine nY ?_))|(((with_reducible refine Sl.k_call ?_;((refine B9 (cEq _ hst vha vhb hvha hvhb) Aa rfl ?_;clear hst;rintro v w ⟨rfl,hst⟩))))<;>(try refine nY ?_)<;>(try replace hst:=nH hst))|((fail_if_success (go_big_may));(go_step))|((first|(with_reducible refine Sl.k_load ?_;(refine Ag hst (by exact Bp Ab Ak Aa Aa rfl) ?_))|(with_reducible refine Sl.k_field ?_;(((refine An hst (Ah Ab Ak Aa Aa rfl) ?_);rintro v hp;(try simp only [Int.toNat_natCast,Int.toNat_natCast_add_one,Int.reduceToNat] at hp)))))<;>(try refine nY ?_))|(with_reducible refine Sl.gate rfl ?_;(go_step)))
   clear cEq hvha hvhb hz1 hvha1 hvhb1;obtain ⟨ps,hps⟩:∃ ps,y.2.2.1=ps:=⟨_,rfl⟩
   rw [hps] at HM hmy;obtain ⟨m,hs,xs,⟨⟩⟩:=x;obtain ⟨a0,a1,a2,a3,a4,a5,a6,a7,a8,a9,d0,d1,d2,d3,d4,d5,rfl⟩:=LM hx16;simp only at hmh hmx;have HPS:=Lib.hid hps;clear hps;refine wp_region_lit ?_;repeat' (first|((first|(with_reducible (refine Sl.k_load ?_;refine An hst (Ae (y:=hs) Ab Ak Aa) ?_;rintro vh ⟨hvh,hvh1⟩;obtain ⟨ua,un,uc,rfl⟩:=KH hvh))|(with_reducible (refine Sl.Ri ?_;refine Ag hst (Cz (cs:=Fw a0 a1 a2 a3 a4 a5 a6 a7 a8 a9 d0 d1 d2 d3 d4 d5 (.slice ua un uc) (.slice none 0 0)) Aa Aa kr) ?_)))<;>(try refine nY ?_))|((fail_if_success (go_big_may));(go_step))|((first|(with_reducible refine Sl.k_load ?_;(refine Ag hst (by exact Bp Ab Ak Aa Aa rfl) ?_))|(with_reducible refine Sl.k_field ?_;(((refine An hst (Ah Ab Ak Aa Aa rfl) ?_);rintro v hp;(try simp only [Int.toNat_natCast,Int.toNat_natCast_add_one,Int.reduceToNat] at hp)))))<;>(try refine nY ?_))|((((first|(with_reducible refine Sl.k_store ?_;(refine AB hst rfl _ BoxIn.h Aa Ab rfl A6 A5 (by simp) ?_);clear hst;intro w hst)|(refine Bv hst Aa ?_;clear hst;intro bk w hst))))<;>(try refine nY ?_)<;>(try replace hst:=nH hst)))
   go_loopw [7] (fun u7 wr=>∃ (i:Nat) (T:Ac) (po:Option Addr) (pn pc:Nat) (out:List Pn),i≤xs.length∧S2.Le T∧u7=.int .i64 (i:Int)∧out.length=i∧Hid (out=(xs.take i).foldl (Dh kP) [])∧RSl T (.slice po pn pc) out∧St T (.box bk (Fw a0 a1 a2 a3 a4 a5 a6 a7 a8 a9 d0 d1 d2 d3 d4 d5 (.slice ua un uc) (.slice po pn pc)) 27::.box bE DO 27::M) wr) (fun v _=>xs.length - (intOf v).toNat)
   case atStart=>exact ⟨0,S2,none,0,0,[],Nat.zero_le _,Ac.Le.refl S2,rfl,rfl,Lib.hid rfl,.inl ⟨none,0,rfl,rfl,by unfold maxLen;omega⟩,hst⟩
   case round =>
    clear hst;obtain ⟨i,T,po,pn,pc,out,hi,hT,rfl,hol,HO,hO,hst⟩:=hrel;have hpxT:=Pt.mono hT hpx;by_cases hlt:i < xs.length
    ·have HON:Hid (Dh kP out xs[i]=(xs.take (i+1)).foldl (Dh kP) []):=Lib.hid (by rw [List.take_succ_eq_append_getElem hlt,List.foldl_append,← HO.out];rfl);have hil:=Pr out xs[i];have cI:=fun {S':Ac} {M:List Chunk} (w:World) (hst:St S' M w) (vl:Value) (hl:RSl S' vl out) (cp:List Value) (hp:Rep.R S' cp xs[i])=>UD w hst vl out hl (by omega) cp xs[i] hp
     generalize Dh kP out xs[i]=out2 at *;repeat' ((fail_if_success (with_reducible show Code.wp _ (Code.region 7 _ _) _ _ _));first|(((with_reducible (refine Sl.k_load ?_;refine An hst (Ae (y:=xs) Ab Ak Aa) ?_;rintro vx ⟨hvx,hvx1⟩)))<;>(try refine nY ?_))|((fail_if_success (go_big_may));(go_step))|((first|(with_reducible refine Sl.k_field ?_;(((refine An hst (Ah Ab Ak Aa Aa rfl) ?_);rintro v hp;(try simp only [Int.toNat_natCast,Int.toNat_natCast_add_one,Int.reduceToNat] at hp))))|(with_reducible refine Sl.k_call ?_;(refine Ag hst (by exact Ei Ab Ak Aa) ?_)))<;>(try refine nY ?_))|(with_reducible refine Sl.gate rfl ?_;(go_step)))
     refine AN hst kr ?_;clear hst;intro w hst;have hSS:=Bk hst;(try refine nY ?_);(refine yt1 0 rfl rfl (by exact Fa rfl Aa) ?_)<;>(try refine nY ?_)
     ((refine yt2 2 rfl rfl (Ah Ab hpxT Aa Aa rfl ) ?_;rintro  v2 hp2))<;>(try refine nY ?_)
     ((refine yt2 3 rfl rfl (Ae (y:=xs) Ab hp2 Aa ) ?_;rintro  v3 ⟨hv3,hv31⟩))<;>(try refine nY ?_)
     (refine yt1 4 rfl rfl (C4 Ab) ?_)<;>(try refine nY ?_)
     ((refine yt2 5 rfl rfl (Ao Ab hv3 rfl Aa Aa Af Af ) ?_;rintro  v5 hp5;simp only [Int.toNat_natCast] at hp5))<;>(try refine nY ?_)
     ((refine yt2 6 rfl rfl (Av (y:=xs[i]) Ab hp5 Aa ) ?_;rintro  v6 ⟨c6,rfl,hc6⟩))<;>(try refine nY ?_)
     refine dq 1 rfl kr ?_;intro K hK;refine Ag hst (AM rfl _ BoxIn.h Aa rfl rfl) ?_;(try refine nY ?_);(try replace hst:=nH hst);refine ZF hK (St.cls hSS hst) ?_;clear hK K;(try refine nY ?_);refine dq 7 rfl kr ?_;intro K hK;refine B9 (cI w hst _ (hO.mono hSS) c6 (Rep.mono hSS hc6)) Aa rfl ?_;clear hst;rintro v7 w ⟨T7,hT7,hO7,hst⟩;obtain ⟨qo,qn,qc,rfl⟩:=KH hO7;(try refine nY ?_);(try replace hst:=nH hst);replace hSS:=hSS.trans hT7;refine ZF hK (St.cls hSS hst) ?_;clear hK K;(try refine nY ?_);(refine yt1 8 rfl rfl (by exact Fa rfl Aa) ?_)<;>(try refine nY ?_)
     refine dq 9 rfl kr ?_;intro K hK;(refine EV hst rfl BoxIn.h Ab Ak Aa (by simp<;>omega) ?_);clear hst;intro w hst;(try refine nY ?_);(try replace hst:=nH hst);refine ZF hK (St.cls hSS hst) ?_;clear hK K;(try refine nY ?_);refine Az kr ?_;repeat' (first|((fail_if_success (go_big_may));(go_step))|(with_reducible refine Sl.gate rfl ?_;(go_step)))
     go_roundw
     case rel=>exact ⟨i+1,T7,qo,qn,qc,out2,by omega,hT.trans hSS,by go_num,by omega,HON,hO7,hst⟩
     case measure=>simp [intOf]<;>omega
    ·obtain rfl:i=xs.length:=by omega
     obtain ⟨K0,hK0⟩:∃ K,GK xs ps out=K:=⟨_,rfl⟩
     have HK0:=Lib.hid hK0
     have HN:Hid (cv (⟨[a0,a1,a2,a3,a4,a5,a6,a7,a8,a9,d0,d1,d2,d3,d4,d5]⟩,hs,xs,()) K0=R):=Lib.hid (by
      rw [← HM.out,← hK0,HO.out,List.take_length])
     have hpyT:=Pt.mono hT hpy;clear hK0 HO HM hi hlt;repeat' ((fail_if_success (with_reducible show Code.wp _ (Code.region 9 _ _) _ _ _));first|(((with_reducible (refine Sl.k_load ?_;refine An hst (Ae (y:=xs) Ab Ak Aa) ?_;rintro vx ⟨hvx,hvx1⟩)))<;>(try refine nY ?_))|((fail_if_success (go_big_may));(go_step))|((first|(with_reducible refine Sl.k_field ?_;(((refine An hst (Ah Ab Ak Aa Aa rfl) ?_);rintro v hp;(try simp only [Int.toNat_natCast,Int.toNat_natCast_add_one,Int.reduceToNat] at hp))))|(with_reducible refine Sl.k_call ?_;(refine Ag hst (by exact Ei Ab Ak Aa) ?_)))<;>(try refine nY ?_))|(with_reducible refine Sl.gate rfl ?_;(go_step)))
     go_loopw [8,9,10] (fun u8 _ _ wr=>∃ (j:Nat) (T2:Ac) (po:Option Addr) (pn pc:Nat) (out2:List Pn),j≤ps.length∧T.Le T2∧u8=.int .i64 (j:Int)∧out2.length≤xs.length+j∧Hid (GK xs (ps.drop j) out2=K0)∧RSl T2 (.slice po pn pc) out2∧St T2 (.box bk (Fw a0 a1 a2 a3 a4 a5 a6 a7 a8 a9 d0 d1 d2 d3 d4 d5 (.slice ua un uc) (.slice po pn pc)) 27::.box bE DO 27::M) wr) (fun v _ _ _=>ps.length - (intOf v).toNat)
     case atStart=>exact ⟨0,T,po,pn,pc,out,Nat.zero_le _,Ac.Le.refl T,rfl,by omega,HK0,hO,hst⟩
     case round =>
      clear hst hO HK0 hol;obtain ⟨j,T2,po2,pn2,pc2,out2,hj,hT2,rfl,hol,HK,hO,hst⟩:=hrel;have hpx4:=Pt.mono hT2 hpxT;have hpy4:=Pt.mono hT2 hpyT;have hle4:=hle2.trans (hT.trans hT2);by_cases hlt:j < ps.length
      ·have HKD:=HK.out;rw [List.drop_eq_getElem_cons hlt] at HKD;have HK1:=Lib.hid HKD;clear HKD HK;repeat' ((fail_if_success (with_reducible show Code.wp _ (Code.region 13 _ _) _ _ _));first|(((with_reducible (refine Sl.k_load ?_;refine An hst (Ae (y:=y.2.2.1) Ab Ak Aa) ?_;rintro vq ⟨hvq,hvq1⟩;rw [HPS.out] at hvq)))<;>(try refine nY ?_))|((fail_if_success (go_big_may));(go_step))|((first|(with_reducible refine Sl.k_field ?_;(((refine An hst (Ah Ab Ak Aa Aa rfl) ?_);rintro v hp;(try simp only [Int.toNat_natCast,Int.toNat_natCast_add_one,Int.reduceToNat] at hp))))|(with_reducible refine Sl.k_call ?_;(refine Ag hst (by exact Ei Ab Ak Aa) ?_)))<;>(try refine nY ?_))|(with_reducible refine Sl.gate rfl ?_;(go_step)))
       go_loopw [9,10] (fun u9 u10 wr=>∃ (i:Nat) (f:Bool),i≤xs.length∧u9=.bool f∧u10=.int .i64 (i:Int)∧Hid ((f=true↔A4 (xs.take i) (kP ps[j])≠[])∧(A4 (xs.take i) (kP ps[j])).any (fun n=>decide (n≠BM ps[j]))=false)∧St T2 (.box bk (Fw a0 a1 a2 a3 a4 a5 a6 a7 a8 a9 d0 d1 d2 d3 d4 d5 (.slice ua un uc) (.slice po2 pn2 pc2)) 27::.box bE DO 27::M) wr) (fun _ v _=>xs.length - (intOf v).toNat)
       case atStart=>exact ⟨0,false,Nat.zero_le _,rfl,rfl,Lib.hid ⟨by simp [A4],by simp [A4]⟩,hst⟩
       case round =>
        clear hst;obtain ⟨i,f,hi,rfl,rfl,HF,hst⟩:=hrel;by_cases hit:i < xs.length
        ·obtain ⟨z1,hz1⟩:∃ z,((xs[i]).1 == (ps[j]).1)=z:=⟨_,rfl⟩
         obtain ⟨z2,hz2⟩:∃ z,((xs[i]).2.1 == (ps[j]).2.1)=z:=⟨_,rfl⟩
         have HS:=Lib.hid (TJ hit (kP ps[j]))
         cases z1 with
         | false =>
          have HF1:=Lib.hid (QE HS.out (fun h=>beq_eq_false_iff_ne.1 hz1 (show (kP xs[i]).1=(kP ps[j]).1 by rw [h])) HF.out);clear HF HS HK1;repeat' ((fail_if_success (with_reducible show Code.wp _ (Code.region 15 _ _) _ _ _));first|(((with_reducible (refine Sl.k_load ?_;refine An hst (Ae (y:=xs) Ab Ak Aa) ?_;rintro vx ⟨hvx,hvx1⟩)))<;>(try refine nY ?_))|((fail_if_success (go_big_may));(go_step))|((first|(with_reducible refine Sl.k_field ?_;(((refine An hst (Ah Ab Ak Aa Aa rfl) ?_);rintro v hp;(try simp only [Int.toNat_natCast,Int.toNat_natCast_add_one,Int.reduceToNat] at hp))))|(with_reducible refine Sl.k_call ?_;(refine Ag hst (by exact Ei Ab Ak Aa) ?_)))<;>(try refine nY ?_))|(with_reducible refine Sl.gate rfl ?_;(go_step)))
          refine AN hst kr ?_;clear hst;intro w hst;have hSS:=Bk hst;(try refine nY ?_)
          ((refine yt2 0 rfl rfl (Ah Ab hpx4 Aa Aa rfl ) ?_;rintro  v0 hp0))<;>(try refine nY ?_)
          ((refine yt2 1 rfl rfl (Ae (y:=xs) Ab hp0 Aa ) ?_;rintro  v1 ⟨hv1,hv11⟩))<;>(try refine nY ?_)
          (refine yt1 2 rfl rfl (C4 Ab) ?_)<;>(try refine nY ?_)
          ((refine yt2 3 rfl rfl (Ao Ab hv1 rfl Aa Aa Af Af ) ?_;rintro  v3 hp3;simp only [Int.toNat_natCast] at hp3))<;>(try refine nY ?_)
          ((refine yt2 4 rfl rfl (Ah Ab hp3 Aa Aa rfl ) ?_;rintro  v4 hp4))<;>(try refine nY ?_)
          ((refine yt2 5 rfl rfl (Am Ab hp4 Aa ) ?_;rintro  v5 ⟨rfl,hI5⟩))<;>(try refine nY ?_)
          ((refine yt2 6 rfl rfl (Ah Ab hpy4 Aa Aa rfl ) ?_;rintro  v6 hp6))<;>(try refine nY ?_)
          ((refine yt2 7 rfl rfl (Ae (y:=y.2.2.1) Ab hp6 Aa ) ?_;rintro  v7 ⟨hv7,hv71⟩;rw [HPS.out] at hv7))<;>(try refine nY ?_)
          (refine yt1 8 rfl rfl (C4 Ab) ?_)<;>(try refine nY ?_)
          ((refine yt2 9 rfl rfl (Ao Ab hv7 rfl Aa Aa Af Af ) ?_;rintro  v9 hp9;simp only [Int.toNat_natCast] at hp9))<;>(try refine nY ?_)
          ((refine yt2 10 rfl rfl (Ah Ab hp9 Aa Aa rfl ) ?_;rintro  v10 hp10))<;>(try refine nY ?_)
          ((refine yt2 11 rfl rfl (Am Ab hp10 Aa ) ?_;rintro  v11 ⟨rfl,hI11⟩))<;>(try refine nY ?_)
          (refine yt1 12 rfl rfl (C6 rfl rfl hz1) ?_)<;>(try refine nY ?_)
          (refine yt1 13 rfl rfl (C4 Ab) ?_)<;>(try refine nY ?_)
          ((refine yt3 14 rfl rfl ?_))<;>(try refine nY ?_)
          ((refine yt3 15 rfl rfl ?_))<;>(try refine nY ?_)
          (refine yt3 16 rfl rfl ?_)<;>(try refine nY ?_)
          ((refine yt3 17 rfl rfl ?_))<;>(try refine nY ?_)
          ((refine yt3 18 rfl rfl ?_))<;>(try refine nY ?_)
          ((refine yt3 19 rfl rfl ?_))<;>(try refine nY ?_)
          ((refine yt3 20 rfl rfl ?_))<;>(try refine nY ?_)
          ((refine yt3 21 rfl rfl ?_))<;>(try refine nY ?_)
          (refine yt3 22 rfl rfl ?_)<;>(try refine nY ?_)
          ((refine yt3 23 rfl rfl ?_))<;>(try refine nY ?_)
          ((refine yt3 24 rfl rfl ?_))<;>(try refine nY ?_)
          ((refine yt3 25 rfl rfl ?_))<;>(try refine nY ?_)
          ((refine yt3 26 rfl rfl ?_))<;>(try refine nY ?_)
          (refine yt1 27 rfl rfl (by exact GL rfl Ab) ?_)<;>(try refine nY ?_)
          refine Az kr ?_;repeat' (first|((fail_if_success (go_big_may));(go_step))|(with_reducible refine Sl.gate rfl ?_;(go_step)))
          go_roundw
          case rel=>exact ⟨i+1,f,by omega,rfl,by go_num,HF1,hst⟩
          case measure=>simp [intOf]<;>omega
         | true =>
          cases z2 with
          | false =>
           have HF1:=Lib.hid (QE HS.out (fun h=>beq_eq_false_iff_ne.1 hz2 (show (kP xs[i]).2=(kP ps[j]).2 by rw [h])) HF.out);clear HF HS HK1;repeat' ((fail_if_success (with_reducible show Code.wp _ (Code.region 15 _ _) _ _ _));first|(((with_reducible (refine Sl.k_load ?_;refine An hst (Ae (y:=xs) Ab Ak Aa) ?_;rintro vx ⟨hvx,hvx1⟩)))<;>(try refine nY ?_))|((fail_if_success (go_big_may));(go_step))|((first|(with_reducible refine Sl.k_field ?_;(((refine An hst (Ah Ab Ak Aa Aa rfl) ?_);rintro v hp;(try simp only [Int.toNat_natCast,Int.toNat_natCast_add_one,Int.reduceToNat] at hp))))|(with_reducible refine Sl.k_call ?_;(refine Ag hst (by exact Ei Ab Ak Aa) ?_)))<;>(try refine nY ?_))|(with_reducible refine Sl.gate rfl ?_;(go_step)))
           refine AN hst kr ?_;clear hst;intro w hst;have hSS:=Bk hst;(try refine nY ?_)
           ((refine yt2 0 rfl rfl (Ah Ab hpx4 Aa Aa rfl ) ?_;rintro  v0 hp0))<;>(try refine nY ?_)
           ((refine yt2 1 rfl rfl (Ae (y:=xs) Ab hp0 Aa ) ?_;rintro  v1 ⟨hv1,hv11⟩))<;>(try refine nY ?_)
           (refine yt1 2 rfl rfl (C4 Ab) ?_)<;>(try refine nY ?_)
           ((refine yt2 3 rfl rfl (Ao Ab hv1 rfl Aa Aa Af Af ) ?_;rintro  v3 hp3;simp only [Int.toNat_natCast] at hp3))<;>(try refine nY ?_)
           ((refine yt2 4 rfl rfl (Ah Ab hp3 Aa Aa rfl ) ?_;rintro  v4 hp4))<;>(try refine nY ?_)
           ((refine yt2 5 rfl rfl (Am Ab hp4 Aa ) ?_;rintro  v5 ⟨rfl,hI5⟩))<;>(try refine nY ?_)
           ((refine yt2 6 rfl rfl (Ah Ab hpy4 Aa Aa rfl ) ?_;rintro  v6 hp6))<;>(try refine nY ?_)
           ((refine yt2 7 rfl rfl (Ae (y:=y.2.2.1) Ab hp6 Aa ) ?_;rintro  v7 ⟨hv7,hv71⟩;rw [HPS.out] at hv7))<;>(try refine nY ?_)
           (refine yt1 8 rfl rfl (C4 Ab) ?_)<;>(try refine nY ?_)
           ((refine yt2 9 rfl rfl (Ao Ab hv7 rfl Aa Aa Af Af ) ?_;rintro  v9 hp9;simp only [Int.toNat_natCast] at hp9))<;>(try refine nY ?_)
           ((refine yt2 10 rfl rfl (Ah Ab hp9 Aa Aa rfl ) ?_;rintro  v10 hp10))<;>(try refine nY ?_)
           ((refine yt2 11 rfl rfl (Am Ab hp10 Aa ) ?_;rintro  v11 ⟨rfl,hI11⟩))<;>(try refine nY ?_)
           (refine yt1 12 rfl rfl (C6 rfl rfl hz1) ?_)<;>(try refine nY ?_)
           (refine yt1 13 rfl rfl (C4 Ab) ?_)<;>(try refine nY ?_)
           (((refine yt2 14 rfl rfl (Ah Ab hpx4 Aa Aa rfl ) ?_;rintro  v14 hp14)))<;>(try refine nY ?_)
           (((refine yt2 15 rfl rfl (Ae (y:=xs) Ab hp14 Aa ) ?_;rintro  v15 ⟨hv15,hv151⟩)))<;>(try refine nY ?_)
           (refine yt1 16 rfl rfl (C4 Ab) ?_)<;>(try refine nY ?_)
           (((refine yt2 17 rfl rfl (Ao Ab hv15 rfl Aa Aa Af Af ) ?_;rintro  v17 hp17;simp only [Int.toNat_natCast] at hp17)))<;>(try refine nY ?_)
           (((refine yt2 18 rfl rfl (Ah Ab hp17 Aa Aa rfl ) ?_;rintro  v18 hp18)))<;>(try refine nY ?_)
           (((refine yt2 19 rfl rfl (Am Ab hp18 Aa ) ?_;rintro  v19 ⟨rfl,hI19⟩)))<;>(try refine nY ?_)
           (((refine yt2 20 rfl rfl (Ah Ab hpy4 Aa Aa rfl ) ?_;rintro  v20 hp20)))<;>(try refine nY ?_)
           (((refine yt2 21 rfl rfl (Ae (y:=y.2.2.1) Ab hp20 Aa ) ?_;rintro  v21 ⟨hv21,hv211⟩;rw [HPS.out] at hv21)))<;>(try refine nY ?_)
           (refine yt1 22 rfl rfl (C4 Ab) ?_)<;>(try refine nY ?_)
           (((refine yt2 23 rfl rfl (Ao Ab hv21 rfl Aa Aa Af Af ) ?_;rintro  v23 hp23;simp only [Int.toNat_natCast] at hp23)))<;>(try refine nY ?_)
           (((refine yt2 24 rfl rfl (Ah Ab hp23 Aa Aa rfl ) ?_;rintro  v24 hp24)))<;>(try refine nY ?_)
           (((refine yt2 25 rfl rfl (Am Ab hp24 Aa ) ?_;rintro  v25 ⟨rfl,hI25⟩)))<;>(try refine nY ?_)
           ((refine yt1 26 rfl rfl (C6 rfl rfl hz2) ?_))<;>(try refine nY ?_)
           (refine yt1 27 rfl rfl (by exact In rfl Ab) ?_)<;>(try refine nY ?_)
           refine Az kr ?_;repeat' (first|((fail_if_success (go_big_may));(go_step))|(with_reducible refine Sl.gate rfl ?_;(go_step)))
           go_roundw
           case rel=>exact ⟨i+1,f,by omega,rfl,by go_num,HF1,hst⟩
           case measure=>simp [intOf]<;>omega
          | true =>
           have hkk:kP xs[i]=kP ps[j]:=Prod.ext (beq_iff_eq.1 hz1) (beq_iff_eq.1 hz2);obtain ⟨z3,hz3⟩:∃ z,((xs[i]).2.2.1 != (ps[j]).2.2.1)=z:=⟨_,rfl⟩
           cases z3 with
           | true =>
            have HNf:Hid ((D9,15)=R):=Lib.hid (by
             have:=HK1.out;rw [Zw hit hkk (bne_iff_ne.1 hz3)] at this;rw [← HN.out,← this];rfl)
            clear HF HS HK1 HN hkk;repeat' ((fail_if_success (with_reducible show Code.wp _ (Code.region 15 _ _) _ _ _));first|(((with_reducible (refine Sl.k_load ?_;refine An hst (Ae (y:=xs) Ab Ak Aa) ?_;rintro vx ⟨hvx,hvx1⟩)))<;>(try refine nY ?_))|((fail_if_success (go_big_may));(go_step))|((first|(with_reducible refine Sl.k_field ?_;(((refine An hst (Ah Ab Ak Aa Aa rfl) ?_);rintro v hp;(try simp only [Int.toNat_natCast,Int.toNat_natCast_add_one,Int.reduceToNat] at hp))))|(with_reducible refine Sl.k_call ?_;(refine Ag hst (by exact Ei Ab Ak Aa) ?_)))<;>(try refine nY ?_))|(with_reducible refine Sl.gate rfl ?_;(go_step)))
            refine AN hst kr ?_;clear hst;intro w hst;have hSS:=Bk hst;(try refine nY ?_)
            ((refine yt2 0 rfl rfl (Ah Ab hpx4 Aa Aa rfl ) ?_;rintro  v0 hp0))<;>(try refine nY ?_)
            ((refine yt2 1 rfl rfl (Ae (y:=xs) Ab hp0 Aa ) ?_;rintro  v1 ⟨hv1,hv11⟩))<;>(try refine nY ?_)
            (refine yt1 2 rfl rfl (C4 Ab) ?_)<;>(try refine nY ?_)
            ((refine yt2 3 rfl rfl (Ao Ab hv1 rfl Aa Aa Af Af ) ?_;rintro  v3 hp3;simp only [Int.toNat_natCast] at hp3))<;>(try refine nY ?_)
            ((refine yt2 4 rfl rfl (Ah Ab hp3 Aa Aa rfl ) ?_;rintro  v4 hp4))<;>(try refine nY ?_)
            ((refine yt2 5 rfl rfl (Am Ab hp4 Aa ) ?_;rintro  v5 ⟨rfl,hI5⟩))<;>(try refine nY ?_)
            ((refine yt2 6 rfl rfl (Ah Ab hpy4 Aa Aa rfl ) ?_;rintro  v6 hp6))<;>(try refine nY ?_)
            ((refine yt2 7 rfl rfl (Ae (y:=y.2.2.1) Ab hp6 Aa ) ?_;rintro  v7 ⟨hv7,hv71⟩;rw [HPS.out] at hv7))<;>(try refine nY ?_)
            (refine yt1 8 rfl rfl (C4 Ab) ?_)<;>(try refine nY ?_)
            ((refine yt2 9 rfl rfl (Ao Ab hv7 rfl Aa Aa Af Af ) ?_;rintro  v9 hp9;simp only [Int.toNat_natCast] at hp9))<;>(try refine nY ?_)
            ((refine yt2 10 rfl rfl (Ah Ab hp9 Aa Aa rfl ) ?_;rintro  v10 hp10))<;>(try refine nY ?_)
            ((refine yt2 11 rfl rfl (Am Ab hp10 Aa ) ?_;rintro  v11 ⟨rfl,hI11⟩))<;>(try refine nY ?_)
            (refine yt1 12 rfl rfl (C6 rfl rfl hz1) ?_)<;>(try refine nY ?_)
            (refine yt1 13 rfl rfl (C4 Ab) ?_)<;>(try refine nY ?_)
            (((refine yt2 14 rfl rfl (Ah Ab hpx4 Aa Aa rfl ) ?_;rintro  v14 hp14)))<;>(try refine nY ?_)
            (((refine yt2 15 rfl rfl (Ae (y:=xs) Ab hp14 Aa ) ?_;rintro  v15 ⟨hv15,hv151⟩)))<;>(try refine nY ?_)
            (refine yt1 16 rfl rfl (C4 Ab) ?_)<;>(try refine nY ?_)
            (((refine yt2 17 rfl rfl (Ao Ab hv15 rfl Aa Aa Af Af ) ?_;rintro  v17 hp17;simp only [Int.toNat_natCast] at hp17)))<;>(try refine nY ?_)
            (((refine yt2 18 rfl rfl (Ah Ab hp17 Aa Aa rfl ) ?_;rintro  v18 hp18)))<;>(try refine nY ?_)
            (((refine yt2 19 rfl rfl (Am Ab hp18 Aa ) ?_;rintro  v19 ⟨rfl,hI19⟩)))<;>(try refine nY ?_)
            (((refine yt2 20 rfl rfl (Ah Ab hpy4 Aa Aa rfl ) ?_;rintro  v20 hp20)))<;>(try refine nY ?_)
            (((refine yt2 21 rfl rfl (Ae (y:=y.2.2.1) Ab hp20 Aa ) ?_;rintro  v21 ⟨hv21,hv211⟩;rw [HPS.out] at hv21)))<;>(try refine nY ?_)
            (refine yt1 22 rfl rfl (C4 Ab) ?_)<;>(try refine nY ?_)
            (((refine yt2 23 rfl rfl (Ao Ab hv21 rfl Aa Aa Af Af ) ?_;rintro  v23 hp23;simp only [Int.toNat_natCast] at hp23)))<;>(try refine nY ?_)
            (((refine yt2 24 rfl rfl (Ah Ab hp23 Aa Aa rfl ) ?_;rintro  v24 hp24)))<;>(try refine nY ?_)
            (((refine yt2 25 rfl rfl (Am Ab hp24 Aa ) ?_;rintro  v25 ⟨rfl,hI25⟩)))<;>(try refine nY ?_)
            ((refine yt1 26 rfl rfl (C6 rfl rfl hz2) ?_))<;>(try refine nY ?_)
            (refine yt1 27 rfl rfl (by exact In rfl Ab) ?_)<;>(try refine nY ?_)
            refine Az kr ?_;repeat' ((fail_if_success (with_reducible show Code.wp _ (Code.region 17 _ _) _ _ _));((fail_if_success (go_big_may));(go_step)))
            refine AN hst kr ?_;clear hst;intro w hst;have hSS:=Bk hst;(try refine nY ?_)
            ((refine yt2 0 rfl rfl (Ah Ab hpx4 Aa Aa rfl ) ?_;rintro  v0 hp0))<;>(try refine nY ?_)
            ((refine yt2 1 rfl rfl (Ae (y:=xs) Ab hp0 Aa ) ?_;rintro  v1 ⟨hv1,hv11⟩))<;>(try refine nY ?_)
            (refine yt1 2 rfl rfl (C4 Ab) ?_)<;>(try refine nY ?_)
            ((refine yt2 3 rfl rfl (Ao Ab hv1 rfl Aa Aa Af Af ) ?_;rintro  v3 hp3;simp only [Int.toNat_natCast] at hp3))<;>(try refine nY ?_)
            ((refine yt2 4 rfl rfl (Ah Ab hp3 Aa Aa rfl ) ?_;rintro  v4 hp4))<;>(try refine nY ?_)
            ((refine yt2 5 rfl rfl (Am Ab hp4 Aa ) ?_;rintro  v5 ⟨rfl,hI5⟩))<;>(try refine nY ?_)
            ((refine yt2 6 rfl rfl (Ah Ab hpy4 Aa Aa rfl ) ?_;rintro  v6 hp6))<;>(try refine nY ?_)
            ((refine yt2 7 rfl rfl (Ae (y:=y.2.2.1) Ab hp6 Aa ) ?_;rintro  v7 ⟨hv7,hv71⟩;rw [HPS.out] at hv7))<;>(try refine nY ?_)
            (refine yt1 8 rfl rfl (C4 Ab) ?_)<;>(try refine nY ?_)
            ((refine yt2 9 rfl rfl (Ao Ab hv7 rfl Aa Aa Af Af ) ?_;rintro  v9 hp9;simp only [Int.toNat_natCast] at hp9))<;>(try refine nY ?_)
            ((refine yt2 10 rfl rfl (Ah Ab hp9 Aa Aa rfl ) ?_;rintro  v10 hp10))<;>(try refine nY ?_)
            ((refine yt2 11 rfl rfl (Am Ab hp10 Aa ) ?_;rintro  v11 ⟨rfl,hI11⟩))<;>(try refine nY ?_)
            (refine yt1 12 rfl rfl (Ez rfl rfl hz3) ?_)<;>(try refine nY ?_)
            refine Az kr ?_;repeat' (first|((fail_if_success (go_big_may));(go_step))|(with_reducible refine Sl.gate rfl ?_;(go_step))|(((((with_reducible refine Sl.k_store ?_;(refine AB hst rfl _ BoxIn.h Aa Ab rfl A6 A5 (by simp) ?_);clear hst;intro w hst))))<;>(try refine nY ?_)<;>(try replace hst:=nH hst)))
            refine A7 rfl (AT hst rfl _ BoxIn.h Aa rfl rfl) (A3 rfl) ?_;(try simp only [AX,List.drop_zero,List.drop_succ_cons,List.take_succ_cons,List.take_zero,As,Ap]);exact ⟨_,rfl,T2,DO,hle4,by rw [← HNf.out],by rw [← HNf.out];exact Mf,hst.drop.drop⟩
           | false =>
            have HF1:=Lib.hid (Wp HS.out hkk (bne_eq_false_iff_eq.1 hz3) HF.out);clear HF HS HK1 hkk;repeat' ((fail_if_success (with_reducible show Code.wp _ (Code.region 15 _ _) _ _ _));first|(((with_reducible (refine Sl.k_load ?_;refine An hst (Ae (y:=xs) Ab Ak Aa) ?_;rintro vx ⟨hvx,hvx1⟩)))<;>(try refine nY ?_))|((fail_if_success (go_big_may));(go_step))|((first|(with_reducible refine Sl.k_field ?_;(((refine An hst (Ah Ab Ak Aa Aa rfl) ?_);rintro v hp;(try simp only [Int.toNat_natCast,Int.toNat_natCast_add_one,Int.reduceToNat] at hp))))|(with_reducible refine Sl.k_call ?_;(refine Ag hst (by exact Ei Ab Ak Aa) ?_)))<;>(try refine nY ?_))|(with_reducible refine Sl.gate rfl ?_;(go_step)))
            refine AN hst kr ?_;clear hst;intro w hst;have hSS:=Bk hst;(try refine nY ?_)
            ((refine yt2 0 rfl rfl (Ah Ab hpx4 Aa Aa rfl ) ?_;rintro  v0 hp0))<;>(try refine nY ?_)
            ((refine yt2 1 rfl rfl (Ae (y:=xs) Ab hp0 Aa ) ?_;rintro  v1 ⟨hv1,hv11⟩))<;>(try refine nY ?_)
            (refine yt1 2 rfl rfl (C4 Ab) ?_)<;>(try refine nY ?_)
            ((refine yt2 3 rfl rfl (Ao Ab hv1 rfl Aa Aa Af Af ) ?_;rintro  v3 hp3;simp only [Int.toNat_natCast] at hp3))<;>(try refine nY ?_)
            ((refine yt2 4 rfl rfl (Ah Ab hp3 Aa Aa rfl ) ?_;rintro  v4 hp4))<;>(try refine nY ?_)
            ((refine yt2 5 rfl rfl (Am Ab hp4 Aa ) ?_;rintro  v5 ⟨rfl,hI5⟩))<;>(try refine nY ?_)
            ((refine yt2 6 rfl rfl (Ah Ab hpy4 Aa Aa rfl ) ?_;rintro  v6 hp6))<;>(try refine nY ?_)
            ((refine yt2 7 rfl rfl (Ae (y:=y.2.2.1) Ab hp6 Aa ) ?_;rintro  v7 ⟨hv7,hv71⟩;rw [HPS.out] at hv7))<;>(try refine nY ?_)
            (refine yt1 8 rfl rfl (C4 Ab) ?_)<;>(try refine nY ?_)
            ((refine yt2 9 rfl rfl (Ao Ab hv7 rfl Aa Aa Af Af ) ?_;rintro  v9 hp9;simp only [Int.toNat_natCast] at hp9))<;>(try refine nY ?_)
            ((refine yt2 10 rfl rfl (Ah Ab hp9 Aa Aa rfl ) ?_;rintro  v10 hp10))<;>(try refine nY ?_)
            ((refine yt2 11 rfl rfl (Am Ab hp10 Aa ) ?_;rintro  v11 ⟨rfl,hI11⟩))<;>(try refine nY ?_)
            (refine yt1 12 rfl rfl (C6 rfl rfl hz1) ?_)<;>(try refine nY ?_)
            (refine yt1 13 rfl rfl (C4 Ab) ?_)<;>(try refine nY ?_)
            (((refine yt2 14 rfl rfl (Ah Ab hpx4 Aa Aa rfl ) ?_;rintro  v14 hp14)))<;>(try refine nY ?_)
            (((refine yt2 15 rfl rfl (Ae (y:=xs) Ab hp14 Aa ) ?_;rintro  v15 ⟨hv15,hv151⟩)))<;>(try refine nY ?_)
            (refine yt1 16 rfl rfl (C4 Ab) ?_)<;>(try refine nY ?_)
            (((refine yt2 17 rfl rfl (Ao Ab hv15 rfl Aa Aa Af Af ) ?_;rintro  v17 hp17;simp only [Int.toNat_natCast] at hp17)))<;>(try refine nY ?_)
            (((refine yt2 18 rfl rfl (Ah Ab hp17 Aa Aa rfl ) ?_;rintro  v18 hp18)))<;>(try refine nY ?_)
            (((refine yt2 19 rfl rfl (Am Ab hp18 Aa ) ?_;rintro  v19 ⟨rfl,hI19⟩)))<;>(try refine nY ?_)
            (((refine yt2 20 rfl rfl (Ah Ab hpy4 Aa Aa rfl ) ?_;rintro  v20 hp20)))<;>(try refine nY ?_)
            (((refine yt2 21 rfl rfl (Ae (y:=y.2.2.1) Ab hp20 Aa ) ?_;rintro  v21 ⟨hv21,hv211⟩;rw [HPS.out] at hv21)))<;>(try refine nY ?_)
            (refine yt1 22 rfl rfl (C4 Ab) ?_)<;>(try refine nY ?_)
            (((refine yt2 23 rfl rfl (Ao Ab hv21 rfl Aa Aa Af Af ) ?_;rintro  v23 hp23;simp only [Int.toNat_natCast] at hp23)))<;>(try refine nY ?_)
            (((refine yt2 24 rfl rfl (Ah Ab hp23 Aa Aa rfl ) ?_;rintro  v24 hp24)))<;>(try refine nY ?_)
            (((refine yt2 25 rfl rfl (Am Ab hp24 Aa ) ?_;rintro  v25 ⟨rfl,hI25⟩)))<;>(try refine nY ?_)
            ((refine yt1 26 rfl rfl (C6 rfl rfl hz2) ?_))<;>(try refine nY ?_)
            (refine yt1 27 rfl rfl (by exact In rfl Ab) ?_)<;>(try refine nY ?_)
            refine Az kr ?_;repeat' ((fail_if_success (with_reducible show Code.wp _ (Code.region 17 _ _) _ _ _));((fail_if_success (go_big_may));(go_step)))
            refine AN hst kr ?_;clear hst;intro w hst;have hSS:=Bk hst;(try refine nY ?_)
            ((refine yt2 0 rfl rfl (Ah Ab hpx4 Aa Aa rfl ) ?_;rintro  v0 hp0))<;>(try refine nY ?_)
            ((refine yt2 1 rfl rfl (Ae (y:=xs) Ab hp0 Aa ) ?_;rintro  v1 ⟨hv1,hv11⟩))<;>(try refine nY ?_)
            (refine yt1 2 rfl rfl (C4 Ab) ?_)<;>(try refine nY ?_)
            ((refine yt2 3 rfl rfl (Ao Ab hv1 rfl Aa Aa Af Af ) ?_;rintro  v3 hp3;simp only [Int.toNat_natCast] at hp3))<;>(try refine nY ?_)
            ((refine yt2 4 rfl rfl (Ah Ab hp3 Aa Aa rfl ) ?_;rintro  v4 hp4))<;>(try refine nY ?_)
            ((refine yt2 5 rfl rfl (Am Ab hp4 Aa ) ?_;rintro  v5 ⟨rfl,hI5⟩))<;>(try refine nY ?_)
            ((refine yt2 6 rfl rfl (Ah Ab hpy4 Aa Aa rfl ) ?_;rintro  v6 hp6))<;>(try refine nY ?_)
            ((refine yt2 7 rfl rfl (Ae (y:=y.2.2.1) Ab hp6 Aa ) ?_;rintro  v7 ⟨hv7,hv71⟩;rw [HPS.out] at hv7))<;>(try refine nY ?_)
            (refine yt1 8 rfl rfl (C4 Ab) ?_)<;>(try refine nY ?_)
            ((refine yt2 9 rfl rfl (Ao Ab hv7 rfl Aa Aa Af Af ) ?_;rintro  v9 hp9;simp only [Int.toNat_natCast] at hp9))<;>(try refine nY ?_)
            ((refine yt2 10 rfl rfl (Ah Ab hp9 Aa Aa rfl ) ?_;rintro  v10 hp10))<;>(try refine nY ?_)
            ((refine yt2 11 rfl rfl (Am Ab hp10 Aa ) ?_;rintro  v11 ⟨rfl,hI11⟩))<;>(try refine nY ?_)
            (refine yt1 12 rfl rfl (Ez rfl rfl hz3) ?_)<;>(try refine nY ?_)
            refine Az kr ?_;repeat' (first|((fail_if_success (go_big_may));(go_step))|(with_reducible refine Sl.gate rfl ?_;(go_step)))
            go_roundw
            case rel=>exact ⟨i+1,true,by omega,rfl,by go_num,HF1,hst⟩
            case measure=>simp [intOf]<;>omega
        ·obtain rfl:i=xs.length:=by omega
         have HF2:=HF.out;rw [List.take_length] at HF2
         cases f with
         | true =>
          have HKN:Hid (GK xs (ps.drop (j+1)) out2=K0):=Lib.hid (by rw [← HK1.out];exact (Zv (HF2.1.1 rfl) HF2.2).symm);clear HF HF2 HK1;repeat' (first|(((with_reducible (refine Sl.k_load ?_;refine An hst (Ae (y:=xs) Ab Ak Aa) ?_;rintro vx ⟨hvx,hvx1⟩)))<;>(try refine nY ?_))|((fail_if_success (go_big_may));(go_step))|((first|(with_reducible refine Sl.k_field ?_;(((refine An hst (Ah Ab Ak Aa Aa rfl) ?_);rintro v hp;(try simp only [Int.toNat_natCast,Int.toNat_natCast_add_one,Int.reduceToNat] at hp))))|(with_reducible refine Sl.k_call ?_;(refine Ag hst (by exact Ei Ab Ak Aa) ?_)))<;>(try refine nY ?_))|(with_reducible refine Sl.gate rfl ?_;(go_step)))
          go_roundw
          case rel=>exact ⟨j+1,T2,po2,pn2,pc2,out2,by omega,hT2,by go_num,by omega,HKN,hO,hst⟩
          case measure=>simp [intOf]<;>omega
         | false =>
          have HKN:Hid (GK xs (ps.drop (j+1)) (Dh kP out2 ps[j])=K0):=Lib.hid (by rw [← HK1.out];exact (cu (by have:=HF2.1;simpa using this) HF2.2).symm);have hil:=Pr out2 ps[j];have cI:=fun {S':Ac} {M:List Chunk} (w:World) (hst:St S' M w) (vl:Value) (hl:RSl S' vl out2) (cp:List Value) (hp:Rep.R S' cp ps[j])=>UD w hst vl out2 hl (by omega) cp ps[j] hp
          generalize Dh kP out2 ps[j]=out3 at *;clear HF HF2 HK1;repeat' ((fail_if_success (with_reducible show Code.wp _ (Code.region 20 _ _) _ _ _));first|(((with_reducible (refine Sl.k_load ?_;refine An hst (Ae (y:=xs) Ab Ak Aa) ?_;rintro vx ⟨hvx,hvx1⟩)))<;>(try refine nY ?_))|((fail_if_success (go_big_may));(go_step))|((first|(with_reducible refine Sl.k_field ?_;(((refine An hst (Ah Ab Ak Aa Aa rfl) ?_);rintro v hp;(try simp only [Int.toNat_natCast,Int.toNat_natCast_add_one,Int.reduceToNat] at hp))))|(with_reducible refine Sl.k_call ?_;(refine Ag hst (by exact Ei Ab Ak Aa) ?_)))<;>(try refine nY ?_))|(with_reducible refine Sl.gate rfl ?_;(go_step)))
          refine AN hst kr ?_;clear hst;intro w hst;have hSS:=Bk hst;(try refine nY ?_);(refine yt1 0 rfl rfl (by exact Fa rfl Aa) ?_)<;>(try refine nY ?_)
          ((refine yt2 2 rfl rfl (Ah Ab hpy4 Aa Aa rfl ) ?_;rintro  v2 hp2))<;>(try refine nY ?_)
          ((refine yt2 3 rfl rfl (Ae (y:=y.2.2.1) Ab hp2 Aa ) ?_;rintro  v3 ⟨hv3,hv31⟩;rw [HPS.out] at hv3))<;>(try refine nY ?_)
          (refine yt1 4 rfl rfl (C4 Ab) ?_)<;>(try refine nY ?_)
          ((refine yt2 5 rfl rfl (Ao Ab hv3 rfl Aa Aa Af Af ) ?_;rintro  v5 hp5;simp only [Int.toNat_natCast] at hp5))<;>(try refine nY ?_)
          ((refine yt2 6 rfl rfl (Av (y:=ps[j]) Ab hp5 Aa ) ?_;rintro  v6 ⟨c6,rfl,hc6⟩))<;>(try refine nY ?_)
          refine dq 1 rfl kr ?_;intro K hK;refine Ag hst (AM rfl _ BoxIn.h Aa rfl rfl) ?_;(try refine nY ?_);(try replace hst:=nH hst);refine ZF hK (St.cls hSS hst) ?_;clear hK K;(try refine nY ?_);refine dq 7 rfl kr ?_;intro K hK;refine B9 (cI w hst _ (hO.mono hSS) c6 (Rep.mono hSS hc6)) Aa rfl ?_;clear hst;rintro v7 w ⟨T7,hT7,hO7,hst⟩;obtain ⟨qo,qn,qc,rfl⟩:=KH hO7;(try refine nY ?_);(try replace hst:=nH hst);replace hSS:=hSS.trans hT7;refine ZF hK (St.cls hSS hst) ?_;clear hK K;(try refine nY ?_);(refine yt1 8 rfl rfl (by exact Fa rfl Aa) ?_)<;>(try refine nY ?_)
          refine dq 9 rfl kr ?_;intro K hK;(refine EV hst rfl BoxIn.h Ab Ak Aa (by simp<;>omega) ?_);clear hst;intro w hst;(try refine nY ?_);(try replace hst:=nH hst);refine ZF hK (St.cls hSS hst) ?_;clear hK K;(try refine nY ?_);refine Az kr ?_;repeat' (first|((fail_if_success (go_big_may));(go_step))|(with_reducible refine Sl.gate rfl ?_;(go_step)))
          go_roundw
          case rel=>exact ⟨j+1,T7,qo,qn,qc,out3,by omega,hT2.trans hSS,by go_num,by omega,HKN,hO7,hst⟩
          case measure=>simp [intOf]<;>omega
      ·obtain rfl:j=ps.length:=by omega
       have HKD:=HK.out;rw [List.drop_length] at HKD;have HNf:Hid (((⟨[a0,a1,a2,a3,a4,a5,a6,a7,a8,a9,d0,d1,d2,d3,d4,d5]⟩,hs,out2,()),0)=R):=Lib.hid (by rw [← HN.out,← HKD];rfl);have hRx:Rep.R T2 (Fw a0 a1 a2 a3 a4 a5 a6 a7 a8 a9 d0 d1 d2 d3 d4 d5 (.slice ua un uc) (.slice po2 pn2 pc2)) (((⟨[a0,a1,a2,a3,a4,a5,a6,a7,a8,a9,d0,d1,d2,d3,d4,d5]⟩:Dg),hs,out2,()):Br):=Ay (Bi hx16) (Ay (cs:=[_]) ⟨_,rfl,hvh.mono (hT.trans hT2)⟩ (Ay (cs:=[_]) ⟨_,rfl,hO⟩ Cf));clear HK HKD HN hpx4;repeat' (first|(((with_reducible (refine Sl.k_load ?_;refine An hst (Ae (y:=y.2.2.1) Ab Ak Aa) ?_;rintro vq ⟨hvq,hvq1⟩;rw [HPS.out] at hvq)))<;>(try refine nY ?_))|((fail_if_success (go_big_may));(go_step))|((first|(with_reducible refine Sl.k_load ?_;(refine Ag hst (by exact Bl Ab BoxIn.h Aa E5) ?_))|(with_reducible refine Sl.k_field ?_;(((refine An hst (Ah Ab Ak Aa Aa rfl) ?_);rintro v hp;(try simp only [Int.toNat_natCast,Int.toNat_natCast_add_one,Int.reduceToNat] at hp))))|(with_reducible refine Sl.k_call ?_;(refine Ag hst (by exact Ei Ab Ak Aa) ?_)))<;>(try refine nY ?_))|(with_reducible refine Sl.gate rfl ?_;(go_step))|(((((with_reducible refine Sl.k_store ?_;(refine AB hst rfl _ BoxIn.h Aa Ab rfl A6 A5 (by simp) ?_);clear hst;intro w hst))))<;>(try refine nY ?_)<;>(try replace hst:=nH hst)))
       refine A7 rfl (AT hst rfl _ BoxIn.h Aa rfl rfl) (A3 rfl) ?_;(try simp only [AX,List.drop_zero,List.drop_succ_cons,List.take_succ_cons,List.take_zero,As,Ap]);exact ⟨_,rfl,T2,_,hle4,by rw [← HNf.out],by rw [← HNf.out];exact hRx,hst.drop.drop⟩
  ·have HN:Hid ((D9,15)=R):=Lib.hid (by rw [← HR.out,if_neg (fun h=>hh h.2)]);have cEq:=fun {M:List Chunk} (w:World) (hst:St S2 M w) (va vb:Value) (ha:RSl S2 va x.2.1) (hb:RSl S2 vb y.2.1)=>K8 w hst va vb x.2.1 y.2.1 ha hb (by omega)
   rw [decide_eq_false hh] at cEq;clear HR hm hh;repeat' (first|((first|(with_reducible (refine Sl.k_load ?_;refine An hst (Ae (y:=x.2.1) Ab Ak Aa) ?_;rintro vha ⟨hvha,hvha1⟩))|(with_reducible (refine Sl.k_load ?_;refine An hst (Ae (y:=y.2.1) Ab Ak Aa) ?_;rintro vhb ⟨hvhb,hvhb1⟩))|(with_reducible refine Sl.k_bin ?_;(refine Ag hst (Dc rfl rfl (Bi hx16) (Bi hy16) Aa Aa inferInstance hz1) ?_))|(with_reducible refine Sl.k_guard ?_;((refine Sl.guard_yes rfl ?_))))<;>(try refine nY ?_))|(((with_reducible refine Sl.k_call ?_;((refine B9 (cEq _ hst vha vhb hvha hvhb) Aa rfl ?_;clear hst;rintro v w ⟨rfl,hst⟩))))<;>(try refine nY ?_)<;>(try replace hst:=nH hst))|((fail_if_success (go_big_may));(go_step))|((first|(with_reducible refine Sl.k_load ?_;(refine Ag hst (by exact Bp Ab Ak Aa Aa rfl) ?_))|(with_reducible refine Sl.k_field ?_;(((refine An hst (Ah Ab Ak Aa Aa rfl) ?_);rintro v hp;(try simp only [Int.toNat_natCast,Int.toNat_natCast_add_one,Int.reduceToNat] at hp)))))<;>(try refine nY ?_))|(with_reducible refine Sl.gate rfl ?_;(go_step))|(((((with_reducible refine Sl.k_store ?_;(refine AB hst rfl _ BoxIn.h Aa Ab rfl A6 A5 (by simp) ?_);clear hst;intro w hst))))<;>(try refine nY ?_)<;>(try replace hst:=nH hst)))
   apply iB ()
 ·have HN:Hid ((D9,15)=R):=Lib.hid (by rw [← HR.out,if_neg (fun h=>hm h.1)]);have hz1:decide (x.1=y.1)=false:=decide_eq_false hm;clear HR hm;repeat' (first|go_skip|(((with_reducible refine Sl.k_bin ?_;(refine Ag hst (Dc rfl rfl (Bi hx16) (Bi hy16) Aa Aa inferInstance hz1) ?_)))<;>(try refine nY ?_))|((fail_if_success (go_big_may));(go_step))|((first|(with_reducible refine Sl.k_load ?_;(refine Ag hst (by exact Bp Ab Ak Aa Aa rfl) ?_))|(with_reducible refine Sl.k_field ?_;(((refine An hst (Ah Ab Ak Aa Aa rfl) ?_);rintro v hp;(try simp only [Int.toNat_natCast,Int.toNat_natCast_add_one,Int.reduceToNat] at hp)))))<;>(try refine nY ?_))|(with_reducible refine Sl.gate rfl ?_;(go_step))|(((((with_reducible refine Sl.k_store ?_;(refine AB hst rfl _ BoxIn.h Aa Ab rfl A6 A5 (by simp) ?_);clear hst;intro w hst))))<;>(try refine nY ?_)<;>(try replace hst:=nH hst)))
  apply iB ()
end Go.Proofs.YtmmbidoldegemaaGreatDoor
