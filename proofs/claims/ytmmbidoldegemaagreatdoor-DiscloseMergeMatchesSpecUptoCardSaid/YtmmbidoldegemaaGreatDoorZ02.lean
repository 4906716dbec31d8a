/- Part 3 of the proof that the law of the last part holds; no conditions. -/
import Derived.Test.YtmmbidoldegemaaGreatDoorZ01
set_option linter.unusedSimpArgs false
set_option linter.unusedVariables false
set_option maxRecDepth 8000
set_option maxHeartbeats 8000000
namespace Go.Sl
theorem b5 {G:Prop} (_:Unit) (k:G:=by
 repeat' (first|(apply gK ();go_step)|fail)
 go_step3
 repeat' (first|(apply gK ();go_step)|fail)
 go_step3
 repeat' (first|(apply gK ();go_step)|fail)
 go_loopg [3,4] 10 (fun k v u wr=>∃ (x:Nat) (xs:List UInt8),v=.int .u64 x∧1≤k∧Hid (x < 128 ^ k∧xs++Id k x=Bm n∧xs.length+k=10)∧St S (.sl u 5 1 xs.length (u8s xs)::M) wr)
 case atStart=>exact ⟨LW n,[],congrArg _ hz'.out,by omega,⟨Nat.lt_trans (bw hn) fH,by simp [Bm],by simp⟩,hst.nil 5 1⟩
 case round =>
  clear hst;obtain ⟨x,xs,rfl,hk,hx,hst⟩:=hrel;have hu:=AW hst;have hxl:xs.length≤10:=by have:=hx.out.2.2;omega
  by_cases hlt:x < 128
  ·repeat' (first|(apply gK ();go_step)|fail)
   refine AA (vs:=[.int .u8 (x:Int)]) hst Aa Aa rfl rfl (by simp [Value.cells]) rfl (by omega) (by omega) ?_;clear hst;intro u w hst;refine nX ?_;refine AG (j:=0) hst Ab Ab SlIn.h rfl Aa Aa Aa (by simp [Value.cells,Value.oneCell']) (by omega) (by omega) (by decide) ?_;clear hst;intro v' w hst;refine nX ?_;(try replace hst:=nH hst);replace hst:=hst.drop;repeat' (first|(apply gK ();go_step)|fail)
   rw [Exit.noGoto_ret];go_ret;refine ⟨_,rfl,?_⟩;obtain ⟨_,hx2,_⟩:=hx.out;obtain ⟨k',rfl⟩:∃ k',gk=k'+1:=⟨gk - 1,by omega⟩
   rw [Ye hlt] at hx2;rw [← hx2,Hw,List.length_append,Wm hlt];exact hst
  ·repeat' (first|(apply gK ();go_step)|fail)
   refine AA (vs:=[.int .u8 (bits .or .u8 ((x:Int) % 256) 128)]) hst Aa Aa rfl rfl (by simp [Value.cells]) rfl (by omega) (by omega) ?_;clear hst;intro u w hst;refine nX ?_;refine AG (j:=0) hst Ab Ab SlIn.h rfl Aa Aa Aa (by simp [Value.cells,Value.oneCell']) (by omega) (by omega) (by decide) ?_;clear hst;intro v' w hst;refine nX ?_;(try replace hst:=nH hst);replace hst:=hst.drop;repeat' (first|(apply gK ();go_step)|fail)
   obtain ⟨hx1,hx2,hx3⟩:=hx.out;obtain ⟨k',rfl⟩:∃ k',gk=k'+1:=⟨gk - 1,by omega⟩
   rw [Vx hlt] at hx2;go_roundg k'
   case measure=>omega
   case rel =>
    refine ⟨x / 128,xs++[UInt8.ofNat (128+x % 128)],by rw [Int.natCast_ediv];rfl,?_,⟨Nat.div_lt_of_lt_mul (by rw [← Nat.pow_succ'];exact hx1),by rw [← hx2];simp,by simp;omega⟩,?_⟩
    ·rcases Nat.eq_zero_or_pos k' with e|e
     ·subst e;simp at hx1;omega
     ·exact e
    ·rw [Hw,List.length_append,← ZM];exact hst):G:=k
theorem gu {G:Prop} (_:Unit) (k:G:=by
 rcases h with ⟨ad,cap,rfl,_⟩|⟨b,o,cap,c,T,fz,rfl,_⟩
 ·exact ⟨_,_,_,rfl⟩
 ·exact ⟨_,_,_,rfl⟩):G:=k
theorem eX {G:Prop} (_:Unit) (k:G:=by
 repeat' (first|go_skip|apply sG ()|(with_reducible refine Sl.k_guard ?_;refine Sl.guard_cases rfl ?_ ?_<;>intro hg<;>first|exact gX|(simp only [hg,Bool.not_true,Bool.not_false])<;>(try replace hg:=gN hg)<;>(try refine nX ?_))|(apply gK ();go_step)|apply sX ()|(apply sB ();clear hst;intro bx w hst)|fail)
 go_ret;exact ⟨_,rfl,by rw [HR.out];rfl,hst.drop⟩):G:=k
theorem ib {G:Prop} (_:Unit) (k:G:=by
 repeat' (first|go_skip|(with_reducible refine Sl.k_guard ?_;(refine Sl.guard_cases rfl ?_ ?_<;>intro hg<;>first|exact gX|(simp only [hg,Bool.not_true,Bool.not_false]))<;>(try replace hg:=gN hg)<;>(try refine nX ?_))|(apply gK ();go_step)|apply sX ()|(apply sB ();clear hst;intro bx w hst)|fail)
 go_ret;exact ⟨_,rfl,by rw [HR.out];rfl,hst.drop⟩):G:=k
theorem ic {G:Prop} (_:Unit) (k:G:=by
 generalize x.k=k at *;go_enter Tryz.func99,Tryz.ntmps99;repeat' (first|(apply gK ();go_step)|(apply kc ();refine sc (cI _ hst) ?_;clear hst;rintro v w ⟨rfl,hst⟩)|apply sX ()|(apply sS ();clear hst;intro w hst)|(apply sB ();clear hst;intro bx w hst)|(apply sA ();clear hst;intro bk w hst)|fail)
 refine Ca rfl hst rfl 0 rfl inferInstance rfl rfl ?_;exact ⟨_,rfl,rfl,hst.drop.drop⟩):G:=k
theorem iv {G:Prop} (_:Unit) (k:G:=by
 refine AF hst kr ?_;clear hst;intro ops;(try refine nX ?_);refine td 0 rfl ?_;refine td 1 rfl ?_;refine AR 2 rfl kr ?_;intro w hst K hK;(refine AB hst rfl _ BoxIn.h Aa Ab rfl A6 A5 (by simp<;>omega) ?_);clear hst;intro w hst;(try refine nX ?_);(try replace hst:=nH hst);refine Bb hK hst ?_;clear hst hK K;(try clear w);(try refine nX ?_);refine AK kr ?_;clear ops;intro w hst;repeat' (first|(apply gK ();go_step)|fail)
 refine A7 rfl (A3 rfl) (AT hst rfl _ BoxIn.h Aa rfl rfl) ?_;(try simp only [AX,List.drop_zero,List.drop_succ_cons,List.take_succ_cons,List.take_zero,As,Ap]);exact ⟨_,rfl,rfl,hst.drop.drop.drop⟩):G:=k
theorem eY {G:Prop} (_:Unit) (k:G:=by
 refine AF hst kr ?_;clear hst;intro ops;(try refine nX ?_);refine td 0 rfl ?_;refine td 1 rfl ?_;refine AR 2 rfl kr ?_;intro w hst K hK;(refine AB hst rfl _ BoxIn.h Aa Ab rfl A6 A5 (by simp<;>omega) ?_);clear hst;intro w hst;(try refine nX ?_);(try replace hst:=nH hst);refine Bb hK hst ?_;clear hst hK K;(try clear w);(try refine nX ?_);refine AK kr ?_;clear ops;intro w hst;repeat' (first|(apply gK ();go_step)|fail)
 refine A7 rfl (A3 rfl) (AT hst rfl _ BoxIn.h Aa rfl rfl) ?_;(try simp only [AX,List.drop_zero,List.drop_succ_cons,List.take_succ_cons,List.take_zero,As,Ap]);exact ⟨_,rfl,rfl,hst.drop.drop⟩):G:=k
theorem iz {G:Prop} (_:Unit) (k:G:=by
 refine A7 rfl (A3 rfl) (AT hst rfl _ BoxIn.h Aa rfl rfl) ?_;(try simp only [AX,List.drop_zero,List.drop_succ_cons,List.take_succ_cons,List.take_zero,As,Ap]);exact ⟨_,rfl,S3,sn3,cn3,hS1.trans (hS2.trans hS3),rfl,hb3,hR3,hst.sub⟩):G:=k
theorem iD {G:Prop} (_:Unit) (k:G:=by
 refine A7 rfl (A3 rfl) (AT hst rfl _ BoxIn.h Aa rfl rfl) ?_;(try simp only [AX,List.drop_zero,List.drop_succ_cons,List.take_succ_cons,List.take_zero,As,Ap]);exact ⟨_,rfl,S1,sn1,cn1,hS1,rfl,hb1,hR1,hst.sub⟩):G:=k
theorem b3 {G:Prop} (_:Unit) (k:G:=by
 repeat' ((apply KB ());first|(apply gK ();go_step)|apply sX ()|(apply sS ();clear hst;intro w hst)|fail)
 refine AN hst kr ?_;clear hst;intro w hst;have hSS:=Bk hst;(try refine nX ?_);refine BQ 0 2 rfl rfl kr ?_ ?_;intro K hK;refine Ag hst (AM rfl _ BoxIn.h Aa rfl rfl) ?_;refine pn hK ?_;clear hK K;refine BQ 1 2 rfl rfl kr ?_ ?_;intro K hK;refine sc (cM2 _ hst) ?_;clear hst;rintro v1 w ⟨rfl,hst⟩;refine pn hK ?_;clear hK K;refine po 2 rfl ?_;intro K hK;refine Ag hst (AM rfl _ BoxIn.h Aa rfl rfl) ?_;refine pn hK ?_;clear hK K;refine po 3 rfl ?_;intro K hK;refine sc (cN _ (hst.move (k:=1) rfl)) ?_;clear hst;rintro v3 w ⟨S3,sn3,cn3,hS3,rfl,hb3,hR3,hst⟩;(try replace hst:=nH hst);replace hSS:=hSS.trans hS3;refine pn hK ?_;clear hK K;refine pd 4 rfl ?_;refine pd 5 rfl ?_;refine pd 6 rfl ?_;refine po 7 rfl ?_;intro K hK;(refine AB hst rfl _ BoxIn.h Aa Ab rfl A6 A5 (by simp<;>omega) ?_);clear hst;intro w hst;(try replace hst:=nH hst);refine pn hK ?_;clear hK K;refine Az kr ?_;rotate_left;intro K hK;refine Ag hst (AM rfl _ BoxIn.h Aa rfl rfl) ?_;refine pn hK ?_;clear hK K;refine po 1 rfl ?_;intro K hK;refine sc (cM2 _ hst) ?_;clear hst;rintro v1 w ⟨rfl,hst⟩;refine pn hK ?_;clear hK K;refine po 3 rfl ?_;intro K hK;refine sc (cN _ (hst.move (k:=1) rfl)) ?_;clear hst;rintro v3 w ⟨S3,sn3,cn3,hS3,rfl,hb3,hR3,hst⟩;(try replace hst:=nH hst);replace hSS:=hSS.trans hS3;refine pn hK ?_;clear hK K;refine pd 4 rfl ?_;refine pd 5 rfl ?_;refine pd 6 rfl ?_
 refine po 7 rfl ?_;intro K hK;(refine AB hst rfl _ BoxIn.h Aa Ab rfl A6 A5 (by simp<;>omega) ?_);clear hst;intro w hst;(try replace hst:=nH hst);refine pn hK ?_;clear hK K;refine Az kr ?_;rotate_left;intro K hK;refine Ag hst (AM rfl _ BoxIn.h Aa rfl rfl) ?_;refine pn hK ?_;clear hK K;refine po 0 rfl ?_;intro K hK;refine Ag hst (AM rfl _ BoxIn.h Aa rfl rfl) ?_;refine pn hK ?_;clear hK K;refine po 1 rfl ?_;intro K hK;refine sc (cM2 _ hst) ?_;clear hst;rintro v1 w ⟨rfl,hst⟩;refine pn hK ?_;clear hK K;refine po 3 rfl ?_;intro K hK;refine sc (cN _ (hst.move (k:=1) rfl)) ?_;clear hst;rintro v3 w ⟨S3,sn3,cn3,hS3,rfl,hb3,hR3,hst⟩;(try replace hst:=nH hst);replace hSS:=hSS.trans hS3;refine pn hK ?_;clear hK K;refine pd 4 rfl ?_;refine pd 5 rfl ?_;refine pd 6 rfl ?_;refine po 7 rfl ?_;intro K hK;(refine AB hst rfl _ BoxIn.h Aa Ab rfl A6 A5 (by simp<;>omega) ?_);clear hst;intro w hst;(try replace hst:=nH hst);refine pn hK ?_;clear hK K;refine Az kr ?_;rotate_left
 all_goals
  repeat' (first|(apply gK ();go_step)|fail)
  refine A7 rfl (A3 rfl) (AT hst rfl _ BoxIn.h Aa rfl rfl) ?_;(try simp only [AX,List.drop_zero,List.drop_succ_cons,List.take_succ_cons,List.take_zero,As,Ap]);exact ⟨_,rfl,S3,sn3,cn3,hS1.trans (hS2.trans hS3),rfl,hb3,hR3,hst.sub⟩):G:=k
theorem g9 {G:Prop} (_:Unit) (k:G:=by
 repeat' (first|(apply gK ();go_step)|fail)
 refine A7 rfl (A3 rfl) (AT hst rfl _ BoxIn.h Aa rfl rfl) ?_;(try simp only [AX,List.drop_zero,List.drop_succ_cons,List.take_succ_cons,List.take_zero,As,Ap]);exact ⟨_,rfl,S3,sn3,cn3,hS3,rfl,hb3,hR3,hst.sub⟩):G:=k
theorem b2 {G:Prop} (_:Unit) (k:G:=by
 obtain ⟨S2,hS2,hst2,hx⟩:=St.freeze (α:=Int) hst hO rfl;clear hst;have hst:=hst2;clear hst2;have cM2:=fun {M:List Chunk} (w:World) (hst:St S2 M w)=>Bj w hst sl si sn' y (hl.mono (hT.trans hS2)) hm [125]
 have m3:=AO (l:=l) [125] hi;have hb3:(Al l y [125]).nds.length≤100000:=by have:=m3.nds;omega
 have cN:=fun {M:List Chunk} (w:World) (hst:St S2 (.sl (Ar sn') 139 4 y.nds.length cn'::M) w)=>El w sl si sn' cn' (Al l y [125]) (CB hst) (CC (hR.mono hS2)) hb3 17 0 ⟨[]⟩ so of (Gi (Aj (by decide)) (Aj (by decide)) (by decide) hx)
 clear m3;refine AN hst kr ?_;clear hst;intro w hst;have hSS:=Bk hst;(try refine nX ?_);refine BQ 0 2 rfl rfl kr ?_ ?_;intro K hK;refine Ag hst (AM rfl _ BoxIn.h Aa rfl rfl) ?_;refine pn hK ?_;clear hK K;refine BQ 1 2 rfl rfl kr ?_ ?_;intro K hK;refine sc (cM2 _ hst) ?_;clear hst;rintro v1 w ⟨rfl,hst⟩;refine pn hK ?_;clear hK K;refine po 2 rfl ?_;intro K hK;refine Ag hst (AM rfl _ BoxIn.h Aa rfl rfl) ?_;refine pn hK ?_;clear hK K;refine po 3 rfl ?_;intro K hK;refine sc (cN _ (hst.move (k:=0) rfl)) ?_;clear hst;rintro v3 w ⟨S3,sn3,cn3,hS3,rfl,hb3,hR3,hst⟩;(try replace hst:=nH hst);replace hSS:=hSS.trans hS3;refine pn hK ?_;clear hK K;refine pd 4 rfl ?_;refine pd 5 rfl ?_;refine pd 6 rfl ?_;refine po 7 rfl ?_;intro K hK;(refine AB hst rfl _ BoxIn.h Aa Ab rfl A6 A5 (by simp<;>omega) ?_);clear hst;intro w hst;(try replace hst:=nH hst);refine pn hK ?_;clear hK K;refine Az kr ?_;rotate_left;intro K hK;refine Ag hst (AM rfl _ BoxIn.h Aa rfl rfl) ?_;refine pn hK ?_;clear hK K;refine po 1 rfl ?_;intro K hK;refine sc (cM2 _ hst) ?_;clear hst;rintro v1 w ⟨rfl,hst⟩;refine pn hK ?_;clear hK K;refine po 3 rfl ?_;intro K hK;refine sc (cN _ (hst.move (k:=0) rfl)) ?_;clear hst;rintro v3 w ⟨S3,sn3,cn3,hS3,rfl,hb3,hR3,hst⟩;(try replace hst:=nH hst);replace hSS:=hSS.trans hS3;refine pn hK ?_;clear hK K;refine pd 4 rfl ?_;refine pd 5 rfl ?_;refine pd 6 rfl ?_
 refine po 7 rfl ?_;intro K hK;(refine AB hst rfl _ BoxIn.h Aa Ab rfl A6 A5 (by simp<;>omega) ?_);clear hst;intro w hst;(try replace hst:=nH hst);refine pn hK ?_;clear hK K;refine Az kr ?_;rotate_left;intro K hK;refine Ag hst (AM rfl _ BoxIn.h Aa rfl rfl) ?_;refine pn hK ?_;clear hK K;refine po 0 rfl ?_;intro K hK;refine Ag hst (AM rfl _ BoxIn.h Aa rfl rfl) ?_;refine pn hK ?_;clear hK K;refine po 1 rfl ?_;intro K hK;refine sc (cM2 _ hst) ?_;clear hst;rintro v1 w ⟨rfl,hst⟩;refine pn hK ?_;clear hK K;refine po 3 rfl ?_;intro K hK;refine sc (cN _ (hst.move (k:=0) rfl)) ?_;clear hst;rintro v3 w ⟨S3,sn3,cn3,hS3,rfl,hb3,hR3,hst⟩;(try replace hst:=nH hst);replace hSS:=hSS.trans hS3;refine pn hK ?_;clear hK K;refine pd 4 rfl ?_;refine pd 5 rfl ?_;refine pd 6 rfl ?_;refine po 7 rfl ?_;intro K hK;(refine AB hst rfl _ BoxIn.h Aa Ab rfl A6 A5 (by simp<;>omega) ?_);clear hst;intro w hst;(try replace hst:=nH hst);refine pn hK ?_;clear hK K;refine Az kr ?_;rotate_left
 all_goals
  repeat' (first|(apply gK ();go_step)|fail)
  refine A7 rfl (A3 rfl) (AT hst rfl _ BoxIn.h Aa rfl rfl) ?_;(try simp only [AX,List.drop_zero,List.drop_succ_cons,List.take_succ_cons,List.take_zero,As,Ap]);refine ⟨_,rfl,?_⟩;rw [HQ.out];exact ⟨S3,sn3,cn3,hT.trans (hS2.trans hS3),rfl,hb3,hR3,hst.sub⟩):G:=k
theorem gG {G:Prop} (_:Unit) (k:G:=by
 rw [List.getD_eq_getElem?_getD]
 cases e:l[k]? with
 | none=>exact ⟨Int.le_refl _,by decide⟩
 | some v=>exact h v (List.mem_of_getElem? e)):G:=k
theorem eW {G:Prop} (_:Unit) (k:G:=by
 simp only [execOp,hx,hy,eqGuard_at_slice,Sem.run_bind,Sem.run_pure,Result.andThen_ok,Lib.run_eql_slice_nil w T E a n c n' c' hT.u]):G:=k
theorem im {G:Prop} (_:Unit) (k:G:=by
 refine AA (vs:=[]) (cs:=[]) hst (by infer_instance) (by infer_instance) rfl rfl (by simp) rfl (by omega) (by omega) ?_;clear hst;intro u w hst;refine nY ?_;repeat' (first|(apply gK ();go_step)|fail)
 refine A2 (k:=0) hst Ab Ab rfl hv' (by infer_instance) (by infer_instance) (by infer_instance) (by first|(simp;done)|(simp at hm ⊢;omega)) (by first|(simp;done)|(simp at hm ⊢;omega)) (by decide) ?_;clear hst;intro v' w c' hc hst;refine nY ?_;repeat' (first|(apply gK ();go_step)|fail)
 go_ret;refine ⟨_,rfl,?_⟩;rw [hc.eq_u8s] at hst;simp at hst;exact hst):G:=k
theorem eR {G:Prop} (_:Unit) (k:G:=by
 exact Jr rfl hst rfl BoxIn.h Aa Aa ⟨_,rfl,rfl,St.weaken ((hS1.trans hS2).trans hS3) hst.drop⟩):G:=k
theorem ij {G:Prop} (_:Unit) (k:G:=by
 clear hst;have hst:=hst2;clear hst2;(try refine nX ?_);repeat' (first|(apply gK ();go_step)|fail)
 go_ret;exact ⟨_,rfl,S2,so,hS2,rfl,hx,hst⟩):G:=k
theorem VX {G:Prop} (_:Unit) (k:G:=by
 go_roundw
 case rel=>exact ⟨i+1,by omega,by go_num,HN,hst⟩
 case measure=>simp [intOf];omega):G:=k
theorem gw {G:Prop} (_:Unit) (k:G:=by
 repeat' (first|(apply gK ();go_step)|apply sX ()|fail)
 go_ret;exact ⟨_,rfl,by rw [← HN.out];rfl,hst.sub⟩):G:=k
theorem gO {G:Prop} (_:Unit) (k:G:=by
 rw [e];exact ⟨Int.le_refl _,Int.le_refl _,fun h=>(by cases h),fun _ h=>(by rw [hw] at h;cases h),fun _=>⟨by simp only;omega,by simp only;omega⟩⟩):G:=k
theorem ip {G:Prop} (_:Unit) (k:G:=by
 have hl':cl.length=4:=hl
 match cl,hl' with
 | [a,b,c,d],_ =>
  have f1:a=_:=(List.cons.inj e1).1;have f2:b=_:=(List.cons.inj e2).1;have f3:c=_:=(List.cons.inj e3).1;have f4:d=_:=(List.cons.inj e4).1;rw [f1,f2,f3,f4]):G:=k
theorem b1 {G:Prop} (_:Unit) (k:G:=by
 obtain ⟨T,hT⟩:∃ T,BV (DY ns f) ns (k:Int) X.2.2.2.1 W (nx,q,false)=T:=⟨_,rfl⟩
 have HR2:(if T.2=true then T.1 else (T.1.1+1,T.1.2.1,T.1.2.2 || T.1.1 != (k:Int)))=R:=by rw [← hT];exact HR.out
 have HS:=Lib.hid hS1;clear HR cC hz1 hz3 hz4 hw2;have HR:=Lib.hid HR2;have HT:=Lib.hid hT;clear HR2 hT;have hWl:W.length=X.2.2.2.1.length:=by have h:=bne_eq_false_iff_eq.1 hz2;omega
 clear hz2;generalize X.2.2.2.1=os at *;repeat' (first|(apply gK ();go_step)|fail)
 go_loopw [9,10] (fun u9 _ wr=>∃ (i:Nat) (wk:Wk) (S2:Ac),S1.Le S2∧u9=.int .i64 (i:Int)∧i≤os.length∧Hid (BV (DY ns f) ns (k:Int) (os.drop i) (W.drop i) wk=T)∧(0≤wk.1∧wk.1≤3000000)∧(wk.2.2=false→wk.1≤max nx (k:Int)∧nx≤wk.1∧q≤wk.2.1∧wk.2.1 - q≤wk.1 - nx)∧St S2 (.box b7 [.int .i64 X.1,.int .i64 X.2.1,.string ⟨X.2.2.1.b.toArray⟩,.slice so.1 so.2.1 so.2.2] 139::.box b6 [.int .i64 0,.int .i64 0,.bool false] 188::.box b5 [.int .i64 wk.1,.int .i64 wk.2.1,.bool wk.2.2] 188::.box b3 [.slice si.1 si.2.1 si.2.2,.slice sn.1 sn.2.1 sn.2.2,.int .i64 p.2.2.1,.int .i64 p.2.2.2.1] 87::M) wr) (fun v _ _=>os.length - (intOf v).toNat)
 case atStart=>exact ⟨0,(nx,q,false),S1,.refl _,rfl,Nat.zero_le _,HT,⟨by show 0≤nx;omega,by show nx≤3000000;omega⟩,fun _=>⟨by show nx≤max nx (k:Int);omega,Int.le_refl _,Int.le_refl _,by show q - q≤nx - nx;omega⟩,hst⟩
 case round =>
  clear hst HT;obtain ⟨i,⟨a,b,c⟩,S2,hS2,rfl,hi2,HT,hb1,hb2,hst⟩:=hrel;simp only at hb1 hb2 hst;have ho2:=ho.mono hS2;have ha2:=ha.mono hS2;have hn2:=hn.mono hS2
  cases c with
  | true =>
   have HE:=Lib.hid ((Y7 rfl).symm.trans HT.out);have HF:Hid (R=(a+1,b,true)):=Lib.hid (by rw [← HR.out,← HE.out];rfl);clear HE HT HR;by_cases hlt:i < os.length
   ·repeat' (first|go_skip|apply sG ()|(apply gK ();go_step)|apply sX ()|(apply sS ();clear hst;intro w hst)|fail)
    refine Ca rfl hst rfl 1 rfl inferInstance rfl rfl ?_;exact ⟨_,rfl,S2,hS1.trans hS2,by rw [HF.out];rfl,hst.sub⟩
   ·repeat' (first|go_skip|apply sG ()|(apply gK ();go_step)|apply sX ()|(apply sS ();clear hst;intro w hst)|fail)
    refine Ca rfl hst rfl 1 rfl inferInstance rfl rfl ?_;exact ⟨_,rfl,S2,hS1.trans hS2,by rw [HF.out];rfl,hst.sub⟩
  | false =>
   obtain ⟨c1,c2,c3,c4⟩:=hb2 rfl;clear hb2;by_cases hlt:i < os.length
   ·have hltW:i < W.length:=by omega
    have HU:=HT.out;rw [List.drop_eq_getElem_cons hlt,List.drop_eq_getElem_cons hltW] at HU;replace HU:=Lib.hid HU;clear HT;obtain ⟨o,eo⟩:∃ o,os[i]=o:=⟨_,rfl⟩
    rw [eo] at HU;by_cases h1:o < 0
    ·have HC:o < 0∨(k:Int)≤o∨DQ (Ax ns o).1≠W[i]:=.inl h1;have HE:=Lib.hid ((Lt rfl HC).symm.trans HU.out);have HF:Hid (R=(a,b,true)):=Lib.hid (by rw [← HR.out,← HE.out];rfl);clear HE HU HR HC;have h1':os[i] < 0:=by omega
     clear eo;repeat' (first|apply sG ()|(apply gK ();go_step)|apply sX ()|(apply sN ();intro hI)|(apply sI ();intro v hp)|(apply sS ();clear hst;intro w hst)|fail)
     refine Ca rfl hst rfl 1 rfl inferInstance rfl rfl ?_;exact ⟨_,rfl,S2,hS1.trans hS2,by rw [HF.out];rfl,hst.sub⟩
    ·by_cases h2:(k:Int)≤o
     ·have HC:o < 0∨(k:Int)≤o∨DQ (Ax ns o).1≠W[i]:=.inr (.inl h2);have HE:=Lib.hid ((Lt rfl HC).symm.trans HU.out);have HF:Hid (R=(a,b,true)):=Lib.hid (by rw [← HR.out,← HE.out];rfl);clear HE HU HR HC;have h1':¬ os[i] < 0∧(k:Int)≤os[i]:=by omega
      clear eo;repeat' (first|apply sG ()|(apply gK ();go_step)|apply sX ()|(apply sN ();intro hI)|(apply sI ();intro v hp)|(apply sS ();clear hst;intro w hst)|fail)
      refine Ca rfl hst rfl 1 rfl inferInstance rfl rfl ?_;exact ⟨_,rfl,S2,hS1.trans hS2,by rw [HF.out];rfl,hst.sub⟩
     ·obtain ⟨o,rfl⟩:∃ o':Nat,o=o':=⟨o.toNat,by omega⟩
      have hok:o < k:=by omega
      have hol:o < ns.length:=by omega
      have h1':¬ os[i] < 0∧os[i] < (k:Int):=by omega
      have hx1:=BG hol;obtain ⟨z,hz⟩:∃ z,(DQ ns[o].1 != W[i])=z:=⟨_,rfl⟩
      have cK:=fun {S:Ac} {M:List Chunk} (w:World) (hst:St S M w)=>Og w hst ns[o].1
      have HO:=Lib.hid eo;clear h1 h2
      cases z with
      | true =>
       have HC:(o:Int) < 0∨(k:Int)≤(o:Int)∨DQ (Ax ns (o:Int)).1≠W[i]:=.inr (.inr (by rw [hx1];simpa using hz));have HE:=Lib.hid ((Lt rfl HC).symm.trans HU.out);have HF:Hid (R=(a,b,true)):=Lib.hid (by rw [← HR.out,← HE.out];rfl);clear HE HU HR HC;clear hx1 eo;repeat' ((apply Lr ());first|apply sG ()|(apply gK ();go_step)|apply sX ()|(apply sN ();intro hI)|(apply sI ();intro v hp)|fail)
       rw [HO.out];refine AF hst kr ?_;clear hst;intro ops;(try refine nX ?_);refine td 0 rfl ?_;refine td 1 rfl ?_;refine td 2 rfl ?_;refine tx 3 rfl (Ao Ab Ak rfl Aa Aa Af Af) ?_;rintro v hp;replace hp:=iN hp;refine tx 4 rfl (Ah Ab Ak Aa Aa rfl) ?_;rintro v hp;replace hp:=iN hp;refine tx 5 rfl (Am Ab Ak Aa) ?_;rintro v ⟨rfl,hI⟩;(refine Ba 6 rfl kr rfl (fun S' M' w hS hM hst=>cK w hst) Aa rfl ?_)<;>(try refine nX ?_)
       refine td 7 rfl ?_;refine td 8 rfl ?_;refine tx 9 rfl (Ao Ab Ak rfl Aa Aa Af Af) ?_;rintro v hp;replace hp:=iN hp;refine tx 10 rfl (Am Ab Ak Aa) ?_;rintro v ⟨rfl,hI⟩;refine tq 11 rfl (Ez rfl rfl hz) ?_;refine AK kr ?_;clear ops;intro w hst;repeat' (first|(apply gK ();go_step)|apply sX ()|(apply sS ();clear hst;intro w hst)|fail)
       refine Ca rfl hst rfl 1 rfl inferInstance rfl rfl ?_;exact ⟨_,rfl,S2,hS1.trans hS2,by rw [HF.out];rfl,hst.sub⟩
      | false =>
       have HC:¬ ((o:Int) < 0∨(k:Int)≤(o:Int)∨DQ (Ax ns (o:Int)).1≠W[i]):=by rintro (h|h|h);omega;omega;exact h (by rw [hx1];simpa using hz)
       have HN:=Lib.hid ((bF rfl HC).symm.trans HU.out);have bB:=JV (ns:=ns) f (o:Int) (a,b,false) (by omega) rfl;have cI:=fun {M:List Chunk} (w:World) (hst:St S2 M w)=>ih w si sn o (a,b,false) hst (HP.out.mono (HS.out.trans hS2)) (by rw [hns];exact hol) (by omega) rfl ⟨by show 0≤a;omega,by show a≤1000000;omega⟩ ⟨by show 0≤b;omega,by show b≤a+(1000000 - (o:Int));omega⟩
       rw [hns] at cI;generalize DY ns f (o:Int) (a,b,false)=r at *;clear hx1 eo HC HU;repeat' ((apply Lr ());first|apply sG ()|(apply gK ();go_step)|apply sX ()|(apply sN ();intro hI)|(apply sI ();intro v hp)|fail)
       rw [HO.out];refine AF hst kr ?_;clear hst;intro ops;(try refine nX ?_);refine td 0 rfl ?_;refine td 1 rfl ?_;refine td 2 rfl ?_;refine tx 3 rfl (Ao Ab Ak rfl Aa Aa Af Af) ?_;rintro v hp;replace hp:=iN hp;refine tx 4 rfl (Ah Ab Ak Aa Aa rfl) ?_;rintro v hp;replace hp:=iN hp;refine tx 5 rfl (Am Ab Ak Aa) ?_;rintro v ⟨rfl,hI⟩;(refine Ba 6 rfl kr rfl (fun S' M' w hS hM hst=>cK w hst) Aa rfl ?_)<;>(try refine nX ?_)
       refine td 7 rfl ?_;refine td 8 rfl ?_;refine tx 9 rfl (Ao Ab Ak rfl Aa Aa Af Af) ?_;rintro v hp;replace hp:=iN hp;refine tx 10 rfl (Am Ab Ak Aa) ?_;rintro v ⟨rfl,hI⟩;refine tq 11 rfl (Ez rfl rfl hz) ?_;refine AK kr ?_;clear ops;intro w hst;have B1:=bB.n1;have B2:=bB.p1;have B3:=bB.n2;have B4:=bB.p2;have B5:=Lib.hid bB.ok;clear bB;simp only at B1 B2 B3 B4;repeat' (first|(apply gK ();go_step)|(apply kc ();refine sc (cI _ hst) ?_;clear hst;rintro v w ⟨S3,hS3,rfl,hst⟩)|apply sX ()|(apply sS ();clear hst;intro w hst)|fail)
       go_roundw
       case rel=>exact ⟨i+1,r,S3,hS2.trans hS3,by go_num,by omega,HN,⟨by omega,by omega⟩,fun h=>(by have:=B5.out h;simp only at this;exact ⟨by omega,by omega,by omega,by omega⟩),hst⟩
       case measure=>simp [intOf];omega
   ·obtain rfl:i=os.length:=by omega
    have HU:=HT.out;rw [List.drop_of_length_le (Nat.le_refl _)] at HU;have HE:=Lib.hid (Y6.symm.trans HU);obtain ⟨z,hz⟩:∃ z,(a != (k:Int))=z:=⟨_,rfl⟩
    have HF:Hid (R=(a+1,b,z)):=Lib.hid (by rw [← HR.out,← HE.out,← hz];rfl);clear HE HT HR HU;repeat' (first|apply sK ()|apply sG ()|(apply gK ();go_step)|apply sX ()|(apply sS ();clear hst;intro w hst)|fail)
    refine Ca rfl hst rfl 1 rfl inferInstance rfl rfl ?_;exact ⟨_,rfl,S2,hS1.trans hS2,by rw [HF.out];rfl,hst.sub⟩):G:=k
theorem gZ {G:Prop} (_:Unit) (k:G:=by
 refine Ca rfl hst rfl 1 rfl inferInstance rfl rfl ?_;exact ⟨_,rfl,S1,hS1,by rw [HR.out];rfl,hst.sub⟩):G:=k
theorem eQ {G:Prop} (_:Unit) (k:G:=by
 repeat' (first|apply sK ()|apply sG ()|(apply gK ();go_step)|apply sX ()|(apply sN ();intro hI)|(apply sI ();intro v hp)|fail)
 go_ret;exact ⟨_,rfl,S,.refl _,by rw [HR.out];rfl,hst.sub⟩):G:=k
theorem gz {G:Prop} (_:Unit) (k:G:=by
 cases os with
 | nil=>cases cs<;>rfl
 | cons o' os=>cases cs with
  | nil=>rfl
  | cons c' cs=>rw [BV,if_pos hbo]):G:=k
theorem ii {G:Prop} (_:Unit) (k:G:=by
 clear hx hp hw hnm;go_enter Tryz.func111,Tryz.ntmps111;repeat' ((apply Z1 ());first|(apply gK ();go_step)|(apply sB ();clear hst;intro bx w hst)|fail)
 refine wp_region_lit ?_;repeat' (first|(apply gK ();go_step)|apply sX ()|(apply sD ();intro cl hcl)|(apply sI ();intro v hp)|(apply sA ();clear hst;intro bk w hst)|fail)
 obtain ⟨so,rfl,ho,hI1,hI2,hI3⟩:=BT hcl;clear hcl;rw [show Rep.agg Nd=true from rfl];(try refine nX ?_);repeat' (first|(apply gK ();go_step)|apply sX ()|(apply sS ();clear hst;intro w hst)|fail)
 go_ret;exact ⟨_,rfl,rfl,hst.sub⟩):G:=k
theorem gE {G:Prop} (_:Unit) (k:G:=by
 refine AK kr ?_;clear ops;intro w hst;repeat' (first|(apply gK ();go_step)|fail)
 go_ret;exact ⟨_,rfl,rfl,hst.sub⟩):G:=k
theorem gF {G:Prop} (_:Unit) (k:G:=by
 refine AK kr ?_;clear ops;intro w hst;repeat' (first|(apply gK ();go_step)|fail)
 go_ret;exact ⟨_,rfl,by rw [HR.out];rfl,hst.sub⟩):G:=k
theorem b9 {G:Prop} (_:Unit) (k:G:=by
 clear h cN
 cases z with
 | false =>
  have HF:=hno hq0;clear hq0;repeat' (first|apply sK ()|apply sG ()|(apply gK ();go_step)|(apply kc ();refine sc (c1 _ hst) ?_;clear hst;rintro v w ⟨rfl,hst⟩)|apply sX ()|(apply sS ();clear hst;intro w hst)|fail)
  go_ret;exact ⟨_,rfl,by rw [← HR.out,HF.out];simp,hst.sub⟩
 | true =>
  have hq:=hq0;repeat' (first|apply sK ()|apply sG ()|(apply gK ();go_step)|(apply kc ();refine sc (c1 _ hst) ?_;clear hst;rintro v w ⟨rfl,hst⟩)|apply sX ()|(apply sS ();clear hst;intro w hst)|fail)
  go_roundw
  case rel=>exact ⟨i+1,by omega,by go_num,Lib.hid (by rw [hnx.out,HA.out,hq];rfl),hst.sub⟩
  case measure=>simp [intOf];omega):G:=k
theorem PX {G:Prop} (_:Unit) (k:G:=by
 go_roundw
 case rel=>exact ⟨i+1,by omega,by go_num,Lib.hid (by rw [hnx.out,HA.out,hq];rfl),hst.sub⟩
 case measure=>simp [intOf];omega):G:=k
theorem iu {G:Prop} (_:Unit) (k:G:=by
 clear hq0;repeat' (first|apply sK ()|apply sG ()|(apply gK ();go_step)|(apply kc ();refine sc (c1 _ hst) ?_;clear hst;rintro v w ⟨rfl,hst⟩)|apply sX ()|apply sP ()|(apply sI ();intro v hp)|(apply sS ();clear hst;intro w hst)|(apply sA ();clear hst;intro bk w hst)|fail)
 go_ret;exact ⟨_,rfl,by rw [← HE.out,HF.out];rfl,hst.sub⟩):G:=k
theorem iy {G:Prop} (_:Unit) (k:G:=by
 refine AF hst kr ?_;clear hst;intro ops;(try refine nX ?_);refine td 0 rfl ?_;refine td 1 rfl ?_;refine td 2 rfl ?_;refine td 3 rfl ?_;refine td 4 rfl ?_;refine tx 5 rfl (Ao Ab Ak rfl Aa Aa Af Af) ?_;rintro v hp;replace hp:=iN hp;refine tx 6 rfl (Am Ab Ak Aa) ?_;rintro v ⟨rfl,hI⟩;(refine Ba 7 rfl kr rfl (fun S' M' w hS hM hst=>cC2 w hS hst) Aa rfl ?_)<;>(try refine nX ?_)
 (refine Ba 8 rfl kr rfl (fun S' M' w hS hM hst=>cA w hst) Aa rfl ?_)<;>(try refine nX ?_)
 refine td 9 rfl ?_;refine AK kr ?_;clear ops;intro w hst;repeat' (first|(apply gK ();go_step)|fail)
 go_roundw
 case rel=>exact ⟨i+1,by omega,by rw [hsn.out],by go_num,hst⟩
 case measure=>simp [intOf];omega):G:=k
theorem gQ {G:Prop} (_:Unit) (k:G:=by
 ·obtain rfl:i=os.length:=by omega
  repeat' (first|(apply gK ();go_step)|apply sX ()|fail)
  go_ret;exact ⟨_,rfl,by rw [← HR.out,List.take_length];rfl,hst.sub⟩):G:=k
theorem gt {G:Prop} (_:Unit) (k:G:=by
 obtain ⟨o,a,b,d⟩:=G9 hw hk hi;rw [b];exact ih w si sn o hst (hp.mono hS) hw (by omega) (by omega)):G:=k
theorem gY {G:Prop} (_:Unit) (k:G:=by
 repeat' (first|go_skip|apply sK ()|apply sG ()|(apply gK ();go_step)|(apply kc ();refine sc (cR _ hst) ?_;clear hst;rintro v w ⟨rfl,hst⟩)|apply sX ()|fail)
 go_ret;exact ⟨_,rfl,S1,hS1,by rw [HE.out];rfl,hst.sub⟩):G:=k
theorem gH {G:Prop} (_:Unit) (k:G:=by
 rcases h with ⟨ad,cap,rfl,rfl,_⟩|⟨b,o,cap,c,T,fz,rfl,_,_,_,hR⟩
 ·simp at hi
 ·exact ⟨_,hR.2 i xs[i] (List.getElem?_eq_getElem hi)⟩):G:=k
theorem g7 {G:Prop} (_:Unit) (k:G:=by
 simp only [List.length_append,i1,List.length_cons,List.length_nil,List.map_cons,List.map_nil,List.sum_cons,List.sum_nil];omega):G:=k
theorem hH {G:Prop} (_:Unit) (k:G:=by
 repeat' (first|apply sK ()|(apply gK ();go_step)|(apply kc ();refine sc (cO _ hst) ?_;clear hst;rintro v w ⟨S3,so3,co3,hS3,rfl,hC3,hst⟩)|(apply sN ();intro hI)|(apply sI ();intro v hp)|fail)
 go_ret;exact ⟨_,rfl,S3,so3,co3,hSS2.trans hS3,rfl,by rw [← HR.out];exact hC3,by rw [← HR.out];exact hst⟩):G:=k
theorem b6 {G:Prop} (_:Unit) (k:G:=by
 rw [← hnl.out] at hm1;simp only [List.length_nil,Nat.zero_add] at hm1;have hb1:=HB.out i hlt (pos+(n:Int));have hsn:Hid (Ck (AQ p f) ((p.2.1[k]).2.2.2.1.take (i+1)) pos []=Ck (AQ p f) ((p.2.1[k]).2.2.2.1.take i) pos []++AQ p f (BB p.2.1[k] i) (pos+(n:Int))):=Lib.hid (by rw [List.take_succ_eq_append_getElem hlt,Ms,← hnl.out,Sw hlt]);have cM:=fun {S':Ac} {M:List Chunk} (w:World) (hst:St S' M w) (cl:List Value) (hR:Rep.R S' cl p)=>HC.out i hlt w hst cl hR (pos+(n:Int)) (by omega)
 generalize AQ p f (BB p.2.1[k] i) (pos+(n:Int))=B at *;repeat' ((apply P3 ());first|(apply gK ();go_step)|apply sX ()|(apply sL ();intro v hvl hv1)|(apply sI ();intro v hp)|fail)
 refine AN hst kr ?_;clear hst;intro w hst;have hSS:=Bk hst;(try refine nX ?_);refine pd 0 rfl ?_;refine px 1 rfl (Av (y:=p) Ab hpp Aa) ?_;rintro v1 ⟨c1,rfl,hc1⟩;refine px 2 rfl (Ah Ab hpn Aa Aa rfl) ?_;rintro v2 hp2;refine px 3 rfl (Ae Ab hp2 Aa) ?_;rintro v3 ⟨hv3,hv31⟩;replace hv3:RSl T v3 (p.2.1[k]).2.2.2.1:=hv3;refine pd 4 rfl ?_;refine px 5 rfl (Ao Ab hv3 rfl Aa Aa Af Af) ?_;rintro v5 hp5;replace hp5:=iN hp5;refine px 6 rfl (Am Ab hp5 Aa) ?_;rintro v6 ⟨rfl,hI4⟩;refine pd 7 rfl ?_;refine pd 8 rfl ?_;refine po 9 rfl ?_;intro K hK;refine Ag hst (G6 Ab SlIn.h Aa) ?_;refine pn hK ?_;clear hK K;refine pt 10 rfl (by exact DV rfl rfl Af) ?_;refine po 11 rfl ?_;intro K hK;refine sc (cM w hst c1 (Rep.mono hSS hc1)) ?_;clear hst;rintro v11 w ⟨S3,so3,hS3,rfl,hX3,hst⟩;replace hSS:=hSS.trans hS3;refine pn hK ?_;clear hK K;refine po 12 rfl ?_;intro K hK;refine A2 hst Ab Ab SlIn.h hX3 Aa Aa Aa (by omega) (by omega) (by decide) ?_;clear hst;intro x12 w d12 hd12 hst;have hone12:=Bh (k:=0) hst rfl;(try replace hst:=nH hst);refine pn hK ?_;clear hK K;refine pd 13 rfl ?_;refine Az kr ?_;obtain ⟨ay,cy,rfl⟩:=sl_formk (k:=0) hst rfl;repeat' (first|(apply gK ();go_step)|fail)
 go_roundw
 case rel=>exact ⟨i+1,n+B.length,S3,ay,cy,co1++d12,by omega,hT.trans hS3,rfl,by go_num,Lib.hid (by rw [hsn.out,List.length_append,hnl.out]),by rw [hsn.out];exact (hC.mono hS3).append hd12,hst⟩
 case measure=>simp [intOf];omega):G:=k
theorem gR {G:Prop} (_:Unit) (k:G:=by
 go_ret;refine ⟨_,rfl,?_,hst⟩;rw [hE.out];(try simp only [beq_iff_eq,beq_eq_false_iff_ne,ne_eq] at *)
 first
  | (rw [if_pos (by omega)];rfl)
  | (rw [if_neg (by omega)];rfl)):G:=k
theorem b4 {G:Prop} (_:Unit) (k:G:=by
 repeat' (first|(apply gK ();go_step)|fail)
 refine Ag hst (Gj (i:=i) (m:=n) rfl rfl rfl rfl rfl Aa (by omega) (by omega)) ?_;(try refine nX ?_);by_cases h12:n - i > 12
 ·have HN:=Lib.hid (HR.out.symm.trans (QG hlt hk.out (by rw [hE.out];exact h12)));clear HR;have h13:(n:Int) - (i:Int) > 12:=by omega
  repeat' (first|apply sG ()|(apply gK ();go_step)|(apply sS ();clear hst;intro w hst)|(apply sA ();clear hst;intro bk w hst)|fail)
  refine A7 rfl (A3 rfl) (A3 rfl) ?_;(try simp only [AX,List.drop_zero,List.drop_succ_cons,List.take_succ_cons,List.take_zero,As,Ap]);refine ⟨_,rfl,S,(none,0,0),.refl _,by rw [HN.out],by rw [HN.out];exact Jq,hst.drop.drop⟩
 ·have HN:=Lib.hid ((QF (f:=f) (out:=out) hlt hk.out (by rw [hE.out];exact h12)).symm.trans HR.out);rw [hE.out] at HN;clear HR;have h13:(n:Int) - (i:Int)≤12:=by omega
  repeat' ((apply fc ());first|apply sG ()|(apply gK ();go_step)|(apply sS ();clear hst;intro w hst)|(apply sA ();clear hst;intro bk w hst)|fail)
  repeat' (first|(apply gK ();go_step)|apply sX ()|fail)
  refine AA (vs:=[(.agg #[.int .i64 1,.string ⟨((s.drop i).take (n - i)).toArray⟩,.int .i64 0,.int .i64 (i:Int)])]) hst Aa Aa rfl rfl (by simp [Value.cells]) rfl (by omega) (by omega) ?_;clear hst;intro u w hst;simp only [List.set_cons_succ,List.set_cons_zero,As,Ap,List.drop_succ_cons,List.drop_zero,List.take_succ_cons,List.take_zero,A0,Int.toNat_zero,Int.reduceToNat,Nat.mul_one,Nat.zero_add,Nat.add_zero,Nat.reduceMul,Nat.reduceAdd,Nat.zero_mul,Int.reduceSub,Int.reduceAdd,Int.reduceMul,Int.reduceNeg,Bool.not_true,Bool.not_false];refine AG (j:=0) hst Ab Ab SlIn.h rfl Aa Aa Aa (by simp [Value.cells,Value.oneCell']) (by omega) (by omega) (by decide) ?_;clear hst;intro v' w hst;simp only [List.set_cons_succ,List.set_cons_zero,As,Ap,List.drop_succ_cons,List.drop_zero,List.take_succ_cons,List.take_zero,A0,Int.toNat_zero,Int.reduceToNat,Nat.mul_one,Nat.zero_add,Nat.add_zero,Nat.reduceMul,Nat.reduceAdd,Nat.zero_mul,Int.reduceSub,Int.reduceAdd,Int.reduceMul,Int.reduceNeg,Bool.not_true,Bool.not_false];(try replace hst:=nH hst);replace hst:=hst.drop;obtain ⟨ay,cy,rfl⟩:=sl_formk (k:=1) hst rfl;(try refine nX ?_);repeat' (first|(apply gK ();go_step)|fail)
  go_roundw
  case rel=>exact ⟨f,n,_,(ay,out.length+1,cy),_,rfl,by go_num,HN,by omega,by simp only [List.length_append,List.length_cons,List.length_nil];omega,hR.append (RL.one_mk (Xc (s:=⟨((s.drop i).take (n - i))⟩) (Aj (by decide)) (by unfold maxLen;simp only [List.length_take,List.length_drop];omega) (Aj (by decide)) (Aj ⟨by omega,by omega⟩))),by simpa using hst.drop⟩
  case measure=>simp [intOf];omega):G:=k
theorem b8 {G:Prop} (_:Unit) (k:G:=by
 repeat' (first|(apply gK ();go_step)|apply sX ()|fail)
 refine AA (vs:=[(.agg #[.int .i64 2,.string ⟨((s.drop i).take (n - i)).toArray⟩,.int .i64 v,.int .i64 (i:Int)])]) hst Aa Aa rfl rfl (by simp [Value.cells]) rfl (by omega) (by omega) ?_;clear hst;intro u w hst;simp only [List.set_cons_succ,List.set_cons_zero,As,Ap,List.drop_succ_cons,List.drop_zero,List.take_succ_cons,List.take_zero,A0,Int.toNat_zero,Int.reduceToNat,Nat.mul_one,Nat.zero_add,Nat.add_zero,Nat.reduceMul,Nat.reduceAdd,Nat.zero_mul,Int.reduceSub,Int.reduceAdd,Int.reduceMul,Int.reduceNeg,Bool.not_true,Bool.not_false];refine AG (j:=0) hst Ab Ab SlIn.h rfl Aa Aa Aa (by simp [Value.cells,Value.oneCell']) (by omega) (by omega) (by decide) ?_;clear hst;intro v' w hst;simp only [List.set_cons_succ,List.set_cons_zero,As,Ap,List.drop_succ_cons,List.drop_zero,List.take_succ_cons,List.take_zero,A0,Int.toNat_zero,Int.reduceToNat,Nat.mul_one,Nat.zero_add,Nat.add_zero,Nat.reduceMul,Nat.reduceAdd,Nat.zero_mul,Int.reduceSub,Int.reduceAdd,Int.reduceMul,Int.reduceNeg,Bool.not_true,Bool.not_false];(try replace hst:=nH hst);replace hst:=hst.drop;obtain ⟨ay,cy,rfl⟩:=sl_formk (k:=1) hst rfl;(try refine nX ?_);repeat' (first|(apply gK ();go_step)|fail)
 go_roundw
 case rel=>exact ⟨f,n,_,(ay,out.length+1,cy),_,rfl,by go_num,HN,by omega,by simp only [List.length_append,List.length_cons,List.length_nil];omega,hR.append (RL.one_mk (Xc (s:=⟨((s.drop i).take (n - i))⟩) (Aj (by decide)) (by unfold maxLen;simp only [List.length_take,List.length_drop];omega) (Aj ⟨by omega,by omega⟩) (Aj ⟨by omega,by omega⟩))),by simpa using hst.drop⟩
 case measure=>simp [intOf];omega):G:=k
theorem ig {G:Prop} (_:Unit) (k:G:=by
 rw [hq] at cX;clear hc hq hn9 hcn;repeat' (first|(with_reducible refine kX ?_;refine Ag hst (by exact BY Ab Ab StrT.u Af Af) ?_<;>(try refine nX ?_))|apply sG ()|(apply gK ();go_step)|(apply kc ();refine sc (cX _ hst) ?_;clear hst;rintro v w ⟨rfl,hst⟩)|(with_reducible refine kC ?_;refine Ag hst (by exact AS Ab Aa) ?_<;>(try refine nX ?_))|fail)
 go_roundw
 case rel=>exact ⟨f',n+1,by go_num,HNx,by omega,hst⟩
 case measure=>simp [intOf];omega):G:=k
theorem eV {G:Prop} (_:Unit) (k:G:=by
 refine A7 rfl (A3 rfl) (A3 rfl) ?_;(try simp only [AX,List.drop_zero,List.drop_succ_cons,List.take_succ_cons,List.take_zero,As,Ap]);refine ⟨_,rfl,S,(none,0,0),.refl _,by rw [HN.out],by rw [HN.out];exact Jq,hst.drop⟩):G:=k
theorem iw {G:Prop} (_:Unit) (k:G:=by
 repeat' (first|(with_reducible refine kB ?_;refine Ag hst (Aw rfl rfl Aa hz4) ?_<;>(try refine nX ?_))|(with_reducible refine kB ?_;refine Ag hst (Aw rfl rfl Aa hz5) ?_<;>(try refine nX ?_))|apply sK ()|apply sG ()|(apply gK ();go_step)|(with_reducible refine kL ?_;refine An hst (AL Ab Ak Aa) ?_;rintro v ⟨rfl,hs⟩<;>(try refine nX ?_))|(with_reducible refine kC ?_;refine Ag hst (by exact EK rfl rfl) ?_<;>(try refine nX ?_))|(apply sN ();intro hI)|(apply sI ();intro v hp)|fail)
 go_roundw
 case rel=>exact ⟨i+1,(n+1 - 1),max m (n+1 - 1),by omega,by go_num,by go_num,by go_num,HN,by omega,hst⟩
 case measure=>simp [intOf];omega):G:=k
theorem iq {G:Prop} (_:Unit) (k:G:=by
 repeat' (first|(with_reducible refine kB ?_;refine Ag hst (Aw rfl rfl Aa hz4) ?_<;>(try refine nX ?_))|(with_reducible refine kB ?_;refine Ag hst (Aw rfl rfl Aa hz5) ?_<;>(try refine nX ?_))|apply sK ()|apply sG ()|(apply gK ();go_step)|(with_reducible refine kL ?_;refine An hst (AL Ab Ak Aa) ?_;rintro v ⟨rfl,hs⟩<;>(try refine nX ?_))|(with_reducible refine kC ?_;refine Ag hst (by exact EK rfl rfl) ?_<;>(try refine nX ?_))|(apply sN ();intro hI)|(apply sI ();intro v hp)|fail)
 go_roundw
 case rel=>exact ⟨i+1,(n+1),max m (n+1),by omega,by go_num,by go_num,by go_num,HN,by omega,hst⟩
 case measure=>simp [intOf];omega):G:=k
theorem il {G:Prop} (_:Unit) (k:G:=by
 repeat' (first|(with_reducible refine kB ?_;refine Ag hst (Aw rfl rfl Aa hz4) ?_<;>(try refine nX ?_))|apply sK ()|apply sG ()|(apply gK ();go_step)|(with_reducible refine kL ?_;refine An hst (AL Ab Ak Aa) ?_;rintro v ⟨rfl,hs⟩<;>(try refine nX ?_))|(with_reducible refine kC ?_;refine Ag hst (by exact EK rfl rfl) ?_<;>(try refine nX ?_))|(apply sN ();intro hI)|(apply sI ();intro v hp)|fail)
 go_roundw
 case rel=>exact ⟨i+1,(n+1 - 1),max m (n+1 - 1),by omega,by go_num,by go_num,by go_num,HN,by omega,hst⟩
 case measure=>simp [intOf];omega):G:=k
theorem gJ {G:Prop} (_:Unit) (k:G:=by
 go_roundw
 case rel=>exact ⟨i+1,(n - 1),max m (n - 1),by omega,by go_num,by go_num,by go_num,HN,by omega,hst⟩
 case measure=>simp [intOf];omega):G:=k
theorem eU {G:Prop} (_:Unit) (k:G:=by
 refine A7 rfl (AT hst rfl _ BoxIn.h Aa rfl rfl) (A3 rfl) ?_;(try simp only [AX,List.drop_zero,List.drop_succ_cons,List.take_succ_cons,List.take_zero,As,Ap]);exact ⟨_,rfl,by rw [← HR.out];exact JE hS1 hst.sub⟩):G:=k
theorem iA {G:Prop} (_:Unit) (k:G:=by
 refine AA (vs:=[(.int .i64 ((((l[i]).2.1[j]).toNat:Int) % max 1 xs[j].2.2.2.1))]) hst Aa Aa rfl rfl (by simp [Value.cells]) rfl (by omega) (by omega) ?_;clear hst;intro u w hst;refine nY ?_;refine AG (j:=0) hst Ab Ab SlIn.h rfl Aa Aa Aa (by simp [Value.cells,Value.oneCell']) (by omega) (by omega) (by decide) ?_;clear hst;intro v' w hst;refine nY ?_;(try replace hst:=nH hst);replace hst:=hst.drop;obtain ⟨ay,cy,hso⟩:=sl_formk (k:=1) hst rfl;subst hso;(try refine nY ?_);repeat' (first|(apply gK ();go_step)|fail)
 go_roundw
 case rel=>exact ⟨j+1,ay,cy,ci++[.int .i64 ((((l[i]).2.1[j]).toNat:Int) % max 1 xs[j].2.2.2.1)],by omega,rfl,by go_num,by rw [hsn.out,hvq.out];exact hC.append (Cg (Aj (by rw [← hvq.out];omega))),hst.drop⟩
 case measure=>simp [intOf];omega):G:=k
theorem PW {G:Prop} (_:Unit) (k:G:=by
 repeat' (first|apply sK ()|apply sG ()|(apply gK ();go_step)|(apply kc ();refine sc (cC _ hle2 hst) ?_;clear hst;rintro v w ⟨T3,sc,hT3,rfl,hc,hst⟩)|(with_reducible refine kL ?_;refine Ag hst (by exact Bl Ab BoxIn.h Aa E5) ?_<;>(try refine nY ?_))|(apply sT ();clear hst;intro w hst)|(apply sZ ();clear hst;intro bk w hst)|fail)
 go_roundw
 case rel=>exact ⟨i+1,n,T3,a,sp,sg,cp,cg,by omega,by omega,by omega,hT.trans (hT1.trans (hT2.trans hT3)),rfl,rfl,by go_num,HB,HN,hP2.mono hT3,hG2.mono hT3,hst.sub⟩
 case measure=>simp [intOf];omega):G:=k
theorem gv {G:Prop} (_:Unit) (k:G:=by
 rcases h9 with ⟨ad,cap,rfl,_⟩|⟨b,o,cap,c,T,fz,rfl,_⟩
 ·exact ⟨_,_,_,rfl⟩
 ·exact ⟨_,_,_,rfl⟩):G:=k
theorem ie {G:Prop} (_:Unit) (k:G:=by
 repeat' (first|(apply gK ();go_step)|(apply kc ();refine sc (Rl _ hst a) ?_;clear hst;rintro v w ⟨rfl,hst⟩)|(apply kc ();refine sc (Rl _ hst b) ?_;clear hst;rintro v w ⟨rfl,hst⟩)|fail)
 go_ret;exact ⟨_,rfl,rfl,hst⟩):G:=k
theorem gI {G:Prop} (_:Unit) (k:G:=by
 refine ⟨_,rfl,x4,?_⟩;rw [HC.out];show St S (.sl x4 _ 16 (c1++[_]).length (cF Eo (c1++[_]))::_) _;rw [List.length_append,I7];exact hst):G:=k
theorem gx {G:Prop} (_:Unit) (k:G:=by
 have h2:=(List.cons.inj (List.cons.inj hvs).2).1;have:=(List.cons.inj hvs).1;exact ⟨by simpa using this,h2⟩):G:=k
theorem g8 {G:Prop} (_:Unit) (k:G:=by
 refine tq 7 rfl (by exact Bp Ab Ak Aa Aa rfl) ?_;refine tq 8 rfl (Dc rfl rfl (CS ka) (CS kb) Aa Aa Aa hdc) ?_;refine AK kr ?_;clear ops;intro w hst;repeat' (first|(apply gK ();go_step)|fail)
 go_ret;exact ⟨_,rfl,by rw [← HN.out];rfl,hst⟩):G:=k
theorem gD {G:Prop} (_:Unit) (k:G:=by
 repeat' (first|apply sK ()|(apply gK ();go_step)|apply sY ()|fail)
 go_ret;exact ⟨_,rfl,by rw [← HN.out];rfl,hst⟩):G:=k
theorem VY {G:Prop} (_:Unit) (k:G:=by
 refine DU c rfl (by infer_instance) rfl rfl ?_;clear hst c;rintro v w ⟨rfl,hst⟩;refine nX ?_;repeat' (first|(apply gK ();go_step)|fail)
 go_roundw
 case rel =>
  refine ⟨i+1,by omega,by go_num,?_⟩;rw [U6,hin,JF hlt];exact (dB [_,_,_] hst).drop
 case measure=>simp [intOf];omega):G:=k
theorem gP {G:Prop} (_:Unit) (k:G:=by
 ·repeat' (first|(apply gK ();go_step)|fail)
  go_end0
  refine ⟨_,rfl,rfl,?_⟩;rw [RR hg0,← show i=nd.2.2.2.1.length by omega];exact hst.drop.drop):G:=k
theorem YU {G:Prop} (_:Unit) (k:G:=by
 refine AA (vs:=[]) (cs:=[]) hst (by infer_instance) (by infer_instance) rfl rfl (by simp) rfl (by omega) (by omega) ?_;clear hst;intro u w hst;refine nX ?_;repeat' (first|(apply gK ();go_step)|fail)
 refine A2 (k:=0) hst Ab Ab rfl hv' (by infer_instance) (by infer_instance) (by infer_instance) (by first|(simp;done)|(simp at hm ⊢;omega)) (by first|(simp;done)|(simp at hm ⊢;omega)) (by decide) ?_;clear hst;intro v' w c' hc hst;refine nX ?_;repeat' (first|(apply gK ();go_step)|fail)
 go_ret;refine ⟨_,rfl,?_⟩;rw [Zy hc] at hst;simp at hst;exact hst):G:=k
theorem gV {G:Prop} (_:Unit) (k:G:=by
 refine ⟨i+1,by omega,by go_num,?_,?_⟩
 ·rw [Ha,hlk.out]
 ·rw [Ha,hlk.out];exact hst):G:=k
theorem iC {G:Prop} (_:Unit) (k:G:=by
 clear HR hq;repeat' ((apply Z4 ());first|(apply gK ();go_step)|(with_reducible refine kL ?_;refine An hst (Av (y:=ev) Ab hpe Aa) ?_;rintro v34 ⟨c34,rfl,hc34⟩<;>(try refine nY ?_))|(apply kc ();refine sc (cC _ hst c34 hc34) ?_;clear hst;rintro v w ⟨rfl,hst⟩)|fail)
 refine AN hst kr ?_;clear hst;intro w hst;have hSS:=Bk hst;(try refine nY ?_);refine px 0 rfl (Av (y:=ev) Ab hpe Aa) ?_;rintro v0 ⟨c0,rfl,hc0⟩;refine pt 2 rfl (Bp (y:=r) Ab hpr Aa Aa rfl) ?_;refine po 1 rfl ?_;intro K hK;refine sc (cG w hst c0 hc0) ?_;clear hst;rintro v1 w ⟨rfl,hst⟩;refine pn hK ?_;clear hK K;refine pt 3 rfl (Dc rfl rfl (C1 hok) (C1 hr) Aa Aa Aa hdc) ?_;refine Az kr ?_;repeat' (first|(apply gK ();go_step)|fail)
 go_ret;exact ⟨_,rfl,by rw [← HN.out];rfl,St.weaken hle hst⟩):G:=k
theorem eT {G:Prop} (_:Unit) (k:G:=by
 refine td 12 rfl ?_;refine AK kr ?_;clear ops;intro w hst;repeat' (first|(apply gK ();go_step)|fail)
 go_ret2
 exact ⟨_,rfl,T5,(none,0,0),hle3.trans (hT4.trans hT5),by rw [← HNf.out];rfl,by rw [← HNf.out];exact Lx,hst.drop⟩):G:=k
theorem eS {G:Prop} (_:Unit) (k:G:=by
 go_ret2
 exact ⟨_,rfl,S1,(none,0,0),hS1,by rw [← HN.out];rfl,by rw [← HN.out];exact Lx,hst⟩):G:=k
theorem b7 {G:Prop} (_:Unit) (k:G:=by
 refine AA (vs:=[]) (cs:=[]) hst (by infer_instance) (by infer_instance) rfl rfl (by simp) rfl (by omega) (by omega) ?_;clear hst;intro u w hst;refine nY ?_;repeat' (first|(apply gK ();go_step)|fail)
 refine A2 (k:=0) hst Ab Ab rfl hv' (by infer_instance) (by infer_instance) (by infer_instance) (by first|(simp;done)|(simp at hm ⊢;omega)) (by first|(simp;done)|(simp at hm ⊢;omega)) (by decide) ?_;clear hst;intro v' w c' hc hst;refine nY ?_;repeat' (first|(apply gK ();go_step)|fail)
 go_ret;refine ⟨_,rfl,c',hc,?_⟩;simp only [List.set_cons_zero,List.nil_append,Nat.zero_add] at hst;exact hst):G:=k
theorem g5 {G:Prop} (_:Unit) (k:G:=by
 refine td 16 rfl ?_;refine AK kr ?_;clear ops;intro w hst;repeat' (first|(apply gK ();go_step)|fail)
 go_roundw
 case rel=>exact ⟨i+1,c',ys,by omega,by go_num,hR,Lib.hid ⟨hU.out.1,hso.out,hU.out.2.2⟩,hst⟩
 case measure=>simp [intOf];omega):G:=k
theorem eZ {G:Prop} (_:Unit) (k:G:=by
 have hY:=Lib.hid (hZ.out.sort (show q≤zs.length by rw [hzl];omega) hu3.out hs3.out);by_cases hq2:q < e∧e < b
 ·have hle2:b - q≤L:=by omega
  repeat' (first|apply sG ()|(apply gK ();go_step)|(apply kc ();refine sc (ih _ sv N ys1 hl1 c3 hst hR3 q e b hq2.1 hq2.2 hb hx hle2 hz3 hz4 hY) ?_;clear hst;rintro v w ⟨c4,ys2,hR4,hu4,hs4,hst⟩)|fail)
  go_end0
  exact ⟨_,rfl,c4,ys2,hR4,((hup.out.trans (hu3.out.wide (Nat.le_refl _) (by omega))).trans (hu4.wide (by omega) (Nat.le_refl _))),Jk hx1.out hu3.out hs3.out hu4 hs4,hst⟩
 ·have hs4:=Lib.hid (show Bc BW AD ys1 q b by
   by_cases k1:q < e
   ·have:e=b:=by omega
    rw [this] at hz3;exact hz3
   ·have:e=q:=by omega
    rw [this] at hz4;exact hz4)
  repeat' (first|apply sG ()|(with_reducible refine Sl.k_guard ?_;refine Sl.guard_cases rfl ?_ ?_<;>intro hg<;>first|exact gX|(simp only [hg,Bool.not_true,Bool.not_false])<;>(try replace hg:=gN hg)<;>(try refine nX ?_))|(apply gK ();go_step)|fail)
  all_goals first
   | (exfalso;omega)
   | (go_end0;exact ⟨_,rfl,c3,ys1,hR3,hup.out.trans (hu3.out.wide (Nat.le_refl _) (by omega)),Jk hx1.out hu3.out hs3.out (Cp.refl q b ys1) hs4.out,hst⟩)):G:=k
theorem iE {G:Prop} (_:Unit) (k:G:=by
 have hY:=Lib.hid (hZ.out.sort (show q≤zs.length by rw [hzl];omega) hu3.out hs3.out);by_cases hq2:q < e∧e < b
 ·have hle2:b - q≤L:=by omega
  repeat' (first|apply sG ()|(apply gK ();go_step)|(apply kc ();refine sc (ih _ sv N ys1 hl1 c3 hst hR3 q e b hq2.1 hq2.2 hb hx hle2 hz3 hz4 hY) ?_;clear hst;rintro v w ⟨c4,ys2,hR4,hu4,hs4,hst⟩)|fail)
  go_end0
  exact ⟨_,rfl,c4,ys2,hR4,((hup.out.trans (hu3.out.wide (Nat.le_refl _) (by omega))).trans (hu4.wide (by omega) (Nat.le_refl _))),Jk hx1.out hu3.out hs3.out hu4 hs4,hst⟩
 ·have hs4:=Lib.hid (show Bc BW AD ys1 q b by
   by_cases k1:q < e
   ·have:e=b:=by omega
    rw [this] at hz3;exact hz3
   ·have:e=q:=by omega
    rw [this] at hz4;exact hz4)
  repeat' (first|go_skip|(with_reducible refine Sl.k_guard ?_;(refine Sl.guard_cases rfl ?_ ?_<;>intro hg<;>first|exact gX|(simp only [hg,Bool.not_true,Bool.not_false]))<;>(try replace hg:=gN hg)<;>(try refine nX ?_))|(apply gK ();go_step)|fail)
  all_goals first
   | (exfalso;omega)
   | (go_end0;exact ⟨_,rfl,c3,ys1,hR3,hup.out.trans (hu3.out.wide (Nat.le_refl _) (by omega)),Jk hx1.out hu3.out hs3.out (Cp.refl q b ys1) hs4.out,hst⟩)):G:=k
theorem gW {G:Prop} (_:Unit) (k:G:=by
 refine AK kr ?_;clear ops;intro w hst;repeat' (first|(apply gK ();go_step)|fail)
 go_roundw
 case rel=>exact ⟨h+1,j,by omega,by go_num,rfl,Lib.hid ⟨hnx.out,hse.out.2⟩,hst⟩
 case measure=>simp [intOf];omega):G:=k
theorem gU {G:Prop} (_:Unit) (k:G:=by
 refine AK kr ?_;clear ops;intro w hst;repeat' (first|(apply gK ();go_step)|fail)
 go_roundw
 case rel=>exact ⟨i,h,by omega,rfl,rfl,Lib.hid ⟨hse.out.1,hnx.out⟩,hst⟩
 case measure=>simp [intOf];omega):G:=k
theorem gM {G:Prop} (_:Unit) (k:G:=by
 clear e;repeat' (first|(apply gK ();go_step)|fail)
 refine bodyPost_ret (results_none rfl _ _ _) rfl ?_;exact ⟨_,rfl,c',ys,hR,hE.out.1,hE.out.2,hst⟩):G:=k
theorem gC {G:Prop} (_:Unit) (k:G:=by
 by_cases k1:a < s
 ·have:s=q:=by omega
  rw [this] at hz1;exact hz1
 ·have:s=a:=by omega
  rw [this] at hz2;exact hz2):G:=k
theorem gL {G:Prop} (_:Unit) (k:G:=by
 refine ((List.Perm.swap a (BC e) _).trans (List.Perm.cons a ((List.Perm.swap b (BC e) _).trans (List.Perm.cons b ?_))));exact List.perm_middle.symm):G:=k
theorem YV {G:Prop} (_:Unit) (k:G:=by
 repeat' (first|(with_reducible refine kB ?_;refine Ag hst (Dc rfl rfl (Bi hx16) (Bi hy16) Aa Aa inferInstance hz1) ?_<;>(try refine nY ?_))|apply sG ()|(apply gK ();go_step)|(with_reducible refine kL ?_;refine An hst (Ae (y:=x.2.1) Ab Ak Aa) ?_;rintro vha ⟨hvha,hvha1⟩<;>(try refine nY ?_))|(with_reducible refine kL ?_;refine An hst (Ae (y:=y.2.1) Ab Ak Aa) ?_;rintro vhb ⟨hvhb,hvhb1⟩<;>(try refine nY ?_))|(apply kc ();refine sc (cEq _ hst vha vhb hvha hvhb) ?_;clear hst;rintro v w ⟨rfl,hst⟩)|apply sP ()|(apply sJ ();intro v hp)|(apply sT ();clear hst;intro w hst)|fail)
 refine A7 rfl (AT hst rfl _ BoxIn.h Aa rfl rfl) (A3 rfl) ?_;(try simp only [AX,List.drop_zero,List.drop_succ_cons,List.take_succ_cons,List.take_zero,As,Ap]);exact ⟨_,rfl,S2,DO,hle2,by rw [← HN.out],by rw [← HN.out];exact Mf,hst.drop⟩):G:=k
theorem iB {G:Prop} (_:Unit) (k:G:=by
 refine A7 rfl (AT hst rfl _ BoxIn.h Aa rfl rfl) (A3 rfl) ?_;(try simp only [AX,List.drop_zero,List.drop_succ_cons,List.take_succ_cons,List.take_zero,As,Ap]);exact ⟨_,rfl,S2,DO,hle2,by rw [← HN.out],by rw [← HN.out];exact Mf,hst.drop⟩):G:=k
theorem eP {G:Prop} (_:Unit) (k:G:=by
 rw [← hzb];exact Gn w hst (.slice ea exs.length ec) exs (hre.mono (hT.trans hT1')) (by omega) _ (by infer_instance) [pQ] _ (fun x w hx hst=>UZ w hst pQ qs[i] hpq x)):G:=k
theorem g6 {G:Prop} (_:Unit) (k:G:=by
 ·obtain rfl:i=xs.length:=by omega
  repeat' (first|(apply gK ();go_step)|apply sY ()|fail)
  go_ret;exact ⟨_,rfl,rfl,hst⟩):G:=k
theorem gS {G:Prop} (_:Unit) (k:G:=by
 go_roundw
 case rel=>exact ⟨i+1,by omega,by go_num,hst⟩
 case measure=>simp [intOf];omega):G:=k
theorem eO {G:Prop} (_:Unit) (k:G:=by
 refine Az kr ?_;repeat' (first|(apply gK ();go_step)|fail)
 go_roundw
 case rel=>exact ⟨j+1,by omega,by go_num,hst⟩
 case measure=>simp [intOf];omega):G:=k
theorem ia {G:Prop} (_:Unit) (k:G:=by
 repeat' (first|(apply gK ();go_step)|fail)
 obtain ⟨S7,hS7,hst7,hX⟩:=St.freeze (α:=Pn) hst (RL.append (RL.append (by first|exact hd4|exact hd4.mono hSS) hd7) hd11) (by simp only [List.length_append]);clear hst;have hst:=hst7;have hle:=hS1.trans (hSS.trans hS7);go_ret;exact ⟨_,rfl,S7,hle,by rw [HI.out];exact hX,hst⟩):G:=k
theorem gT {G:Prop} (_:Unit) (k:G:=by
 refine pd 27 rfl ?_;refine Az kr ?_;repeat' (first|(apply gK ();go_step)|fail)
 go_roundw
 case rel=>exact ⟨i+1,f,by omega,rfl,by go_num,HF1,hst⟩
 case measure=>simp [intOf]<;>omega):G:=k
end Go.Sl
