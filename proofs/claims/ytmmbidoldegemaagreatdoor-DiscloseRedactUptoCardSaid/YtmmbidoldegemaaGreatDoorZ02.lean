/- Part 3 of a proof; no conditions. -/
import Derived.Test.YtmmbidoldegemaaGreatDoorZ01
set_option linter.all false
set_option maxRecDepth 8000
set_option maxHeartbeats 8000000
namespace Go.Sl
theorem kG {Gqq:Prop} (_:Unit) (k:Gqq:=by
 repeat' (first|(apply O ();go_step)|fail)
 go_step3
 repeat' (first|(apply O ();go_step)|fail)
 go_step3
 repeat' (first|(apply O ();go_step)|fail)
 go_loopg [3,4] 10 (fun k v u wr=>∃ (x:Nat) (xs:List UInt8),v=.int .u64 x∧1≤k∧Hid (x < 128 ^ k∧xs++IR k x=Bx n∧xs.length+k=10)∧St S (.sl u 5 1 xs.length (u8s xs)::M) wr)
 case atStart=>exact ⟨MP n,[],congrArg _ hz'.out,by omega,⟨Nat.lt_trans (ew hn) iI,by simp [Bx],by simp⟩,V.nil 5 1⟩
 case round =>
  clear V;obtain ⟨x,xs,rfl,hk,hx,V⟩:=hrel;have hu:=Go.Sl.AY V;have hxl:xs.length≤10:=by have:=hx.out.2.2;omega
  by_cases hlt:x < 128
  ·repeat' (first|(apply O ();go_step)|fail)
   refine Ay (vs:=[.int .u8 (x:Int)]) V Y Y rfl rfl (by simp [Value.cells]) rfl (by omega) (by omega) ?_;clear V;intro u w V;refine nX ?_;refine AF (j:=0) V X X SlIn.h rfl Y Y Y (by simp [Value.cells,Value.oneCell']) (by omega) (by omega) (by decide) ?_;clear V;intro v' w V;refine nX ?_;(try replace V:=nH V);replace V:=V.drop;repeat' (first|(apply O ();go_step)|fail)
   rw [Exit.noGoto_ret];go_ret;refine ⟨_,rfl,?_⟩;obtain ⟨_,hx2,_⟩:=hx.out;obtain ⟨k',rfl⟩:∃ k',gk=k'+1:=⟨gk - 1,by omega⟩
   rw [Zw hlt] at hx2;rw [← hx2,Iy,List.length_append,Xx hlt];exact V
  ·repeat' (first|(apply O ();go_step)|fail)
   refine Ay (vs:=[.int .u8 (bits .or .u8 ((x:Int) % 256) 128)]) V Y Y rfl rfl (by simp [Value.cells]) rfl (by omega) (by omega) ?_;clear V;intro u w V;refine nX ?_;refine AF (j:=0) V X X SlIn.h rfl Y Y Y (by simp [Value.cells,Value.oneCell']) (by omega) (by omega) (by decide) ?_;clear V;intro v' w V;refine nX ?_;(try replace V:=nH V);replace V:=V.drop;repeat' (first|(apply O ();go_step)|fail)
   obtain ⟨hx1,hx2,hx3⟩:=hx.out;obtain ⟨k',rfl⟩:∃ k',gk=k'+1:=⟨gk - 1,by omega⟩
   rw [WH hlt] at hx2;go_roundg k'
   case measure=>omega
   case rel =>
    refine ⟨x / 128,xs++[UInt8.ofNat (128+x % 128)],by rw [Int.natCast_ediv];rfl,?_,⟨Nat.div_lt_of_lt_mul (by rw [← Nat.pow_succ'];exact hx1),by rw [← hx2];simp,by simp;omega⟩,?_⟩
    ·rcases Nat.eq_zero_or_pos k' with e|e
     ·subst e;simp at hx1;omega
     ·exact e
    ·rw [Iy,List.length_append,← cu];exact V):Gqq:=k
theorem gU {Gqq:Prop} (_:Unit) (k:Gqq:=by
 simp only [execOp,hx,hy,eqGuard_at_slice,Sem.run_bind,Sem.run_pure,Result.andThen_ok,Lib.run_eql_slice_nil w T E a n c n' c' hT.u]):Gqq:=k
theorem j7 {Gqq:Prop} (_:Unit) (k:Gqq:=by
 refine Ay (vs:=[]) (cs:=[]) V (by infer_instance) (by infer_instance) rfl rfl (by simp) rfl (by omega) (by omega) ?_;clear V;intro u w V;refine nY ?_;repeat' (first|(apply O ();go_step)|fail)
 refine Bj (k:=0) V X X rfl hv' (by infer_instance) (by infer_instance) (by infer_instance) (by first|(simp;done)|(simp at hm ⊢;omega)) (by first|(simp;done)|(simp at hm ⊢;omega)) (by decide) ?_;clear V;intro v' w c' hc V;refine nY ?_;repeat' (first|(apply O ();go_step)|fail)
 go_ret;refine ⟨_,rfl,?_⟩;rw [hc.eq_u8s] at V;simp at V;exact V):Gqq:=k
theorem gO {Gqq:Prop} (_:Unit) (k:Gqq:=by
 exact Ke rfl V rfl N.h Y Y ⟨_,rfl,rfl,St.weaken ((hS1.trans hS2).trans hS3) V.drop⟩):Gqq:=k
theorem jB {Gqq:Prop} (_:Unit) (k:Gqq:=by
 refine ⟨_,rfl,x4,?_⟩;rw [HC.out];show St S (.sl x4 _ 16 (c1++[_]).length (cF EN (c1++[_]))::_) _;rw [List.length_append,JU];exact V):Gqq:=k
theorem jv {Gqq:Prop} (_:Unit) (k:Gqq:=by
 have h2:=(List.cons.inj (List.cons.inj hvs).2).1;have:=(List.cons.inj hvs).1;exact ⟨by simpa using this,h2⟩):Gqq:=k
theorem jr {Gqq:Prop} (_:Unit) (k:Gqq:=by
 rcases h with ⟨ad,cap,rfl,_⟩|⟨b,o,cap,c,T,fz,rfl,_⟩
 ·exact ⟨_,_,_,rfl⟩
 ·exact ⟨_,_,_,rfl⟩):Gqq:=k
theorem jY {Gqq:Prop} (_:Unit) (k:Gqq:=by
 repeat' (first|go_skip|apply sG ()|(with_reducible refine Sl.k_guard ?_;refine Sl.guard_cases rfl ?_ ?_<;>intro hg<;>first|exact gX|(simp only [hg,Bool.not_true,Bool.not_false])<;>(try replace hg:=gN hg)<;>apply nW ())|(apply O ();go_step)|apply sX ()|(apply sB ();clear V;intro bx w V)|fail)
 go_ret;exact ⟨_,rfl,by rw [HR.out];rfl,V.drop⟩):Gqq:=k
theorem jX {Gqq:Prop} (_:Unit) (k:Gqq:=by
 repeat' (first|go_skip|(with_reducible refine Sl.k_guard ?_;(refine Sl.guard_cases rfl ?_ ?_<;>intro hg<;>first|exact gX|(simp only [hg,Bool.not_true,Bool.not_false]))<;>(try replace hg:=gN hg)<;>apply nW ())|(apply O ();go_step)|apply sX ()|(apply sB ();clear V;intro bx w V)|fail)
 go_ret;exact ⟨_,rfl,by rw [HR.out];rfl,V.drop⟩):Gqq:=k
theorem j3 {Gqq:Prop} (_:Unit) (k:Gqq:=by
 generalize x.k=k at *;go_enter Tryz.func99,Tryz.ntmps99;repeat' (first|(apply O ();go_step)|(apply kc ();refine sc (cI _ V) ?_;clear V;rintro v w ⟨rfl,V⟩)|apply sX ()|(apply sS ();clear V;intro w V)|(apply sB ();clear V;intro bx w V)|(apply sA ();clear V;intro bk w V)|fail)
 refine Bl rfl V rfl 0 rfl inferInstance rfl rfl ?_;exact ⟨_,rfl,rfl,V.drop.drop⟩):Gqq:=k
theorem kj {Gqq:Prop} (_:Unit) (k:Gqq:=by
 refine AD V kr ?_;clear V;intro ops;apply nW ();refine td 0 rfl ?_;refine td 1 rfl ?_;refine AP 2 rfl kr ?_;intro w V K G;(refine Ax V rfl _ N.h Y X rfl A3 A2 (by simp<;>omega) ?_);clear V;intro w V;apply nW ();(try replace V:=nH V);refine Bb G V ?_;clear V G K;(try clear w);apply nW ();refine AJ kr ?_;clear ops;intro w V;repeat' (first|(apply O ();go_step)|fail)
 refine Bc rfl (A8 rfl) (AZ V rfl _ N.h Y rfl rfl) ?_;(try simp only [AV,List.drop_zero,List.drop_succ_cons,List.take_succ_cons,List.take_zero,AB,Ap]);exact ⟨_,rfl,rfl,V.drop.drop.drop⟩):Gqq:=k
theorem kg {Gqq:Prop} (_:Unit) (k:Gqq:=by
 refine AD V kr ?_;clear V;intro ops;apply nW ();refine td 0 rfl ?_;refine td 1 rfl ?_;refine AP 2 rfl kr ?_;intro w V K G;(refine Ax V rfl _ N.h Y X rfl A3 A2 (by simp<;>omega) ?_);clear V;intro w V;apply nW ();(try replace V:=nH V);refine Bb G V ?_;clear V G K;(try clear w);apply nW ();refine AJ kr ?_;clear ops;intro w V;repeat' (first|(apply O ();go_step)|fail)
 refine Bc rfl (A8 rfl) (AZ V rfl _ N.h Y rfl rfl) ?_;(try simp only [AV,List.drop_zero,List.drop_succ_cons,List.take_succ_cons,List.take_zero,AB,Ap]);exact ⟨_,rfl,rfl,V.drop.drop⟩):Gqq:=k
theorem kq {Gqq:Prop} (_:Unit) (k:Gqq:=by
 refine Bc rfl (A8 rfl) (AZ V rfl _ N.h Y rfl rfl) ?_;(try simp only [AV,List.drop_zero,List.drop_succ_cons,List.take_succ_cons,List.take_zero,AB,Ap]);exact ⟨_,rfl,S3,sn3,cn3,hS1.trans (hS2.trans hS3),rfl,hb3,hR3,V.sub⟩):Gqq:=k
theorem Xb {Gqq:Prop} (_:Unit) (k:Gqq:=by
 refine Bc rfl (A8 rfl) (AZ V rfl _ N.h Y rfl rfl) ?_;(try simp only [AV,List.drop_zero,List.drop_succ_cons,List.take_succ_cons,List.take_zero,AB,Ap]);exact ⟨_,rfl,S1,sn1,cn1,hS1,rfl,hb1,hR1,V.sub⟩):Gqq:=k
theorem b8 {Gqq:Prop} (_:Unit) (k:Gqq:=by
 repeat' ((apply ZZ 17);first|(apply O ();go_step)|apply sX ()|(apply sS ();clear V;intro w V)|fail)
 refine Bm V kr ?_;clear V;intro w V;have hSS:=Cn V;apply nW ();refine Cp 0 2 rfl rfl kr ?_ ?_;intro K G;refine Ag V (AT rfl _ N.h Y rfl rfl) ?_;refine pn G ?_;clear G K;refine Cp 1 2 rfl rfl kr ?_ ?_;intro K G;refine sc (cM2 _ V) ?_;clear V;rintro v1 w ⟨rfl,V⟩;refine pn G ?_;clear G K;refine po 2 rfl ?_;intro K G;refine Ag V (AT rfl _ N.h Y rfl rfl) ?_;refine pn G ?_;clear G K;refine po 3 rfl ?_;intro K G;refine sc (cN _ (V.move (k:=1) rfl)) ?_;clear V;rintro v3 w ⟨S3,sn3,cn3,hS3,rfl,hb3,hR3,V⟩;(try replace V:=nH V);replace hSS:=hSS.trans hS3;refine pn G ?_;clear G K;refine pd 4 rfl ?_;refine pd 5 rfl ?_;refine pd 6 rfl ?_;refine po 7 rfl ?_;intro K G;(refine Ax V rfl _ N.h Y X rfl A3 A2 (by simp<;>omega) ?_);clear V;intro w V;(try replace V:=nH V);refine pn G ?_;clear G K;refine AK kr ?_;rotate_left;intro K G;refine Ag V (AT rfl _ N.h Y rfl rfl) ?_;refine pn G ?_;clear G K;refine po 1 rfl ?_;intro K G;refine sc (cM2 _ V) ?_;clear V;rintro v1 w ⟨rfl,V⟩;refine pn G ?_;clear G K;refine po 3 rfl ?_;intro K G;refine sc (cN _ (V.move (k:=1) rfl)) ?_;clear V;rintro v3 w ⟨S3,sn3,cn3,hS3,rfl,hb3,hR3,V⟩;(try replace V:=nH V);replace hSS:=hSS.trans hS3;refine pn G ?_;clear G K;refine pd 4 rfl ?_;refine pd 5 rfl ?_;refine pd 6 rfl ?_
 refine po 7 rfl ?_;intro K G;(refine Ax V rfl _ N.h Y X rfl A3 A2 (by simp<;>omega) ?_);clear V;intro w V;(try replace V:=nH V);refine pn G ?_;clear G K;refine AK kr ?_;rotate_left;intro K G;refine Ag V (AT rfl _ N.h Y rfl rfl) ?_;refine pn G ?_;clear G K;refine po 0 rfl ?_;intro K G;refine Ag V (AT rfl _ N.h Y rfl rfl) ?_;refine pn G ?_;clear G K;refine po 1 rfl ?_;intro K G;refine sc (cM2 _ V) ?_;clear V;rintro v1 w ⟨rfl,V⟩;refine pn G ?_;clear G K;refine po 3 rfl ?_;intro K G;refine sc (cN _ (V.move (k:=1) rfl)) ?_;clear V;rintro v3 w ⟨S3,sn3,cn3,hS3,rfl,hb3,hR3,V⟩;(try replace V:=nH V);replace hSS:=hSS.trans hS3;refine pn G ?_;clear G K;refine pd 4 rfl ?_;refine pd 5 rfl ?_;refine pd 6 rfl ?_;refine po 7 rfl ?_;intro K G;(refine Ax V rfl _ N.h Y X rfl A3 A2 (by simp<;>omega) ?_);clear V;intro w V;(try replace V:=nH V);refine pn G ?_;clear G K;refine AK kr ?_;rotate_left
 all_goals
  repeat' (first|(apply O ();go_step)|fail)
  refine Bc rfl (A8 rfl) (AZ V rfl _ N.h Y rfl rfl) ?_;(try simp only [AV,List.drop_zero,List.drop_succ_cons,List.take_succ_cons,List.take_zero,AB,Ap]);exact ⟨_,rfl,S3,sn3,cn3,hS1.trans (hS2.trans hS3),rfl,hb3,hR3,V.sub⟩):Gqq:=k
theorem jW {Gqq:Prop} (_:Unit) (k:Gqq:=by
 repeat' (first|(apply O ();go_step)|fail)
 refine Bc rfl (A8 rfl) (AZ V rfl _ N.h Y rfl rfl) ?_;(try simp only [AV,List.drop_zero,List.drop_succ_cons,List.take_succ_cons,List.take_zero,AB,Ap]);exact ⟨_,rfl,S3,sn3,cn3,hS3,rfl,hb3,hR3,V.sub⟩):Gqq:=k
theorem b7 {Gqq:Prop} (_:Unit) (k:Gqq:=by
 obtain ⟨S2,hS2,hst2,hx⟩:=St.freeze (α:=Int) V hO rfl;clear V;have V:=hst2;clear hst2;have cM2:=fun {M} w (V:St S2 M w)=>Bv w V sl si sn' y (hl.mono (hT.trans hS2)) hm [125]
 have m3:=AR (l:=l) [125] hi;have hb3:(Al l y [125]).nds.length≤100000:=by have:=m3.nds;omega
 have cN:=fun {M} w (V:St S2 (.sl (Ar sn') 139 4 y.nds.length cn'::M) w)=>EJ w sl si sn' cn' (Al l y [125]) (CQ V) (CR (hR.mono hS2)) hb3 17 0 ⟨[]⟩ so of (GQ (Ah (by decide)) (Ah (by decide)) (by decide) hx)
 clear m3;refine Bm V kr ?_;clear V;intro w V;have hSS:=Cn V;apply nW ();refine Cp 0 2 rfl rfl kr ?_ ?_;intro K G;refine Ag V (AT rfl _ N.h Y rfl rfl) ?_;refine pn G ?_;clear G K;refine Cp 1 2 rfl rfl kr ?_ ?_;intro K G;refine sc (cM2 _ V) ?_;clear V;rintro v1 w ⟨rfl,V⟩;refine pn G ?_;clear G K;refine po 2 rfl ?_;intro K G;refine Ag V (AT rfl _ N.h Y rfl rfl) ?_;refine pn G ?_;clear G K;refine po 3 rfl ?_;intro K G;refine sc (cN _ (V.move (k:=0) rfl)) ?_;clear V;rintro v3 w ⟨S3,sn3,cn3,hS3,rfl,hb3,hR3,V⟩;(try replace V:=nH V);replace hSS:=hSS.trans hS3;refine pn G ?_;clear G K;refine pd 4 rfl ?_;refine pd 5 rfl ?_;refine pd 6 rfl ?_;refine po 7 rfl ?_;intro K G;(refine Ax V rfl _ N.h Y X rfl A3 A2 (by simp<;>omega) ?_);clear V;intro w V;(try replace V:=nH V);refine pn G ?_;clear G K;refine AK kr ?_;rotate_left;intro K G;refine Ag V (AT rfl _ N.h Y rfl rfl) ?_;refine pn G ?_;clear G K;refine po 1 rfl ?_;intro K G;refine sc (cM2 _ V) ?_;clear V;rintro v1 w ⟨rfl,V⟩;refine pn G ?_;clear G K;refine po 3 rfl ?_;intro K G;refine sc (cN _ (V.move (k:=0) rfl)) ?_;clear V;rintro v3 w ⟨S3,sn3,cn3,hS3,rfl,hb3,hR3,V⟩;(try replace V:=nH V);replace hSS:=hSS.trans hS3;refine pn G ?_;clear G K;refine pd 4 rfl ?_;refine pd 5 rfl ?_;refine pd 6 rfl ?_
 refine po 7 rfl ?_;intro K G;(refine Ax V rfl _ N.h Y X rfl A3 A2 (by simp<;>omega) ?_);clear V;intro w V;(try replace V:=nH V);refine pn G ?_;clear G K;refine AK kr ?_;rotate_left;intro K G;refine Ag V (AT rfl _ N.h Y rfl rfl) ?_;refine pn G ?_;clear G K;refine po 0 rfl ?_;intro K G;refine Ag V (AT rfl _ N.h Y rfl rfl) ?_;refine pn G ?_;clear G K;refine po 1 rfl ?_;intro K G;refine sc (cM2 _ V) ?_;clear V;rintro v1 w ⟨rfl,V⟩;refine pn G ?_;clear G K;refine po 3 rfl ?_;intro K G;refine sc (cN _ (V.move (k:=0) rfl)) ?_;clear V;rintro v3 w ⟨S3,sn3,cn3,hS3,rfl,hb3,hR3,V⟩;(try replace V:=nH V);replace hSS:=hSS.trans hS3;refine pn G ?_;clear G K;refine pd 4 rfl ?_;refine pd 5 rfl ?_;refine pd 6 rfl ?_;refine po 7 rfl ?_;intro K G;(refine Ax V rfl _ N.h Y X rfl A3 A2 (by simp<;>omega) ?_);clear V;intro w V;(try replace V:=nH V);refine pn G ?_;clear G K;refine AK kr ?_;rotate_left
 all_goals
  repeat' (first|(apply O ();go_step)|fail)
  refine Bc rfl (A8 rfl) (AZ V rfl _ N.h Y rfl rfl) ?_;(try simp only [AV,List.drop_zero,List.drop_succ_cons,List.take_succ_cons,List.take_zero,AB,Ap]);refine ⟨_,rfl,?_⟩;rw [HQ.out];exact ⟨S3,sn3,cn3,hT.trans (hS2.trans hS3),rfl,hb3,hR3,V.sub⟩):Gqq:=k
theorem ak {Gqq:Prop} (_:Unit) (k:Gqq:=by
 have hl':cl.length=4:=hl
 match cl,hl' with
 | [a,b,c,d],_ =>
  have f1:a=_:=(List.cons.inj e1).1;have f2:b=_:=(List.cons.inj e2).1;have f3:c=_:=(List.cons.inj e3).1;have f4:d=_:=(List.cons.inj e4).1;rw [f1,f2,f3,f4]):Gqq:=k
theorem js {Gqq:Prop} (_:Unit) (k:Gqq:=by
 rcases h9 with ⟨ad,cap,rfl,_⟩|⟨b,o,cap,c,T,fz,rfl,_⟩
 ·exact ⟨_,_,_,rfl⟩
 ·exact ⟨_,_,_,rfl⟩):Gqq:=k
theorem gW {Gqq:Prop} (_:Unit) (k:Gqq:=by
 repeat' (first|(apply O ();go_step)|(apply kc ();refine sc (Sp _ V a) ?_;clear V;rintro v w ⟨rfl,V⟩)|(apply kc ();refine sc (Sp _ V b) ?_;clear V;rintro v w ⟨rfl,V⟩)|fail)
 go_ret;exact ⟨_,rfl,rfl,V⟩):Gqq:=k
theorem SN {Gqq:Prop} (_:Unit) (k:Gqq:=by
 go_roundw
 case rel=>exact ⟨i+1,by omega,by go_num,HN,V⟩
 case measure=>simp [intOf];omega):Gqq:=k
theorem jA {Gqq:Prop} (_:Unit) (k:Gqq:=by
 rcases h with ⟨ad,cap,rfl,rfl,_⟩|⟨b,o,cap,c,T,fz,rfl,_,_,_,hR⟩
 ·simp at hi
 ·exact ⟨_,hR.2 i xs[i] (List.getElem?_eq_getElem hi)⟩):Gqq:=k
theorem jz {Gqq:Prop} (_:Unit) (k:Gqq:=by
 rw [List.getD_eq_getElem?_getD]
 cases e:l[k]? with
 | none=>exact ⟨Int.le_refl _,by decide⟩
 | some v=>exact h v (List.mem_of_getElem? e)):Gqq:=k
theorem W8 {Gqq:Prop} (_:Unit) (k:Gqq:=by
 repeat' (first|(apply O ();go_step)|fail)
 go_ret;exact ⟨_,rfl,rfl,V⟩):Gqq:=k
theorem W9 {Gqq:Prop} (_:Unit) (k:Gqq:=by
 clear V;have V:=hst2;clear hst2;apply nW ();repeat' (first|(apply O ();go_step)|fail)
 go_ret;exact ⟨_,rfl,S2,so,hS2,rfl,hx,V⟩):Gqq:=k
theorem jt {Gqq:Prop} (_:Unit) (k:Gqq:=by
 repeat' (first|(apply O ();go_step)|apply sX ()|fail)
 go_ret;exact ⟨_,rfl,by rw [← HN.out];rfl,V.sub⟩):Gqq:=k
theorem jF {Gqq:Prop} (_:Unit) (k:Gqq:=by
 rw [e];exact ⟨Int.le_refl _,Int.le_refl _,fun h=>(by cases h),fun _ h=>(by rw [hw] at h;cases h),fun _=>⟨by simp only;omega,by simp only;omega⟩⟩):Gqq:=k
theorem b2 {Gqq:Prop} (_:Unit) (k:Gqq:=by
 obtain ⟨T,hT⟩:∃ T,Ca (El ns f) ns (k:Int) Xqq.2.2.2.1 W (nx,q,false)=T:=⟨_,rfl⟩
 have HR2:(if T.2=true then T.1 else (T.1.1+1,T.1.2.1,T.1.2.2 || T.1.1 != (k:Int)))=R:=by rw [← hT];exact HR.out
 have HS:=Lib.hid hS1;clear HR cC hz1 hz3 hz4 hw2;have HR:=Lib.hid HR2;have HT:=Lib.hid hT;clear HR2 hT;have hWl:W.length=Xqq.2.2.2.1.length:=by have h:=bne_eq_false_iff_eq.1 hz2;omega
 clear hz2;generalize Xqq.2.2.2.1=os at *;repeat' (first|(apply O ();go_step)|fail)
 go_loopw [9,10] (fun u9 _ wr=>∃ (i:Nat) (wk:Wk) (S2:Ad),S1.Le S2∧u9=.int .i64 (i:Int)∧i≤os.length∧Hid (Ca (El ns f) ns (k:Int) (os.drop i) (W.drop i) wk=T)∧(0≤wk.1∧wk.1≤3000000)∧(wk.2.2=false→wk.1≤max nx (k:Int)∧nx≤wk.1∧q≤wk.2.1∧wk.2.1 - q≤wk.1 - nx)∧St S2 (.box b7 [.int .i64 Xqq.1,.int .i64 Xqq.2.1,.string ⟨Xqq.2.2.1.b.toArray⟩,.slice so.1 so.2.1 so.2.2] 139::.box b6 [.int .i64 0,.int .i64 0,.bool false] 188::.box b5 [.int .i64 wk.1,.int .i64 wk.2.1,.bool wk.2.2] 188::.box b3 [.slice si.1 si.2.1 si.2.2,.slice sn.1 sn.2.1 sn.2.2,.int .i64 p.2.2.1,.int .i64 p.2.2.2.1] 87::M) wr) (fun v _ _=>os.length - (intOf v).toNat)
 case atStart=>exact ⟨0,(nx,q,false),S1,.refl _,rfl,Nat.zero_le _,HT,⟨by show 0≤nx;omega,by show nx≤3000000;omega⟩,fun _=>⟨by show nx≤max nx (k:Int);omega,Int.le_refl _,Int.le_refl _,by show q - q≤nx - nx;omega⟩,V⟩
 case round =>
  clear V HT;obtain ⟨i,⟨a,b,c⟩,S2,hS2,rfl,hi2,HT,hb1,hb2,V⟩:=hrel;simp only at hb1 hb2 V;have ho2:=ho.mono hS2;have ha2:=ha.mono hS2;have hn2:=hn.mono hS2
  cases c with
  | true =>
   have HE:=Lib.hid ((aH rfl).symm.trans HT.out);have HF:Hid (R=(a+1,b,true)):=Lib.hid (by rw [← HR.out,← HE.out];rfl);clear HE HT HR;by_cases hlt:i < os.length
   ·repeat' (first|go_skip|apply sG ()|(apply O ();go_step)|apply sX ()|(apply sS ();clear V;intro w V)|fail)
    refine Bl rfl V rfl 1 rfl inferInstance rfl rfl ?_;exact ⟨_,rfl,S2,hS1.trans hS2,by rw [HF.out];rfl,V.sub⟩
   ·repeat' (first|go_skip|apply sG ()|(apply O ();go_step)|apply sX ()|(apply sS ();clear V;intro w V)|fail)
    refine Bl rfl V rfl 1 rfl inferInstance rfl rfl ?_;exact ⟨_,rfl,S2,hS1.trans hS2,by rw [HF.out];rfl,V.sub⟩
  | false =>
   obtain ⟨c1,c2,c3,c4⟩:=hb2 rfl;clear hb2;by_cases hlt:i < os.length
   ·have hltW:i < W.length:=by omega
    have HU:=HT.out;rw [List.drop_eq_getElem_cons hlt,List.drop_eq_getElem_cons hltW] at HU;replace HU:=Lib.hid HU;clear HT;obtain ⟨o,eo⟩:∃ o,os[i]=o:=⟨_,rfl⟩
    rw [eo] at HU;by_cases h1:o < 0
    ·have HC:o < 0∨(k:Int)≤o∨Ea (Az ns o).1≠W[i]:=.inl h1;have HE:=Lib.hid ((Mk rfl HC).symm.trans HU.out);have HF:Hid (R=(a,b,true)):=Lib.hid (by rw [← HR.out,← HE.out];rfl);clear HE HU HR HC;have h1':os[i] < 0:=by omega
     clear eo;repeat' (first|apply sG ()|(apply O ();go_step)|apply sX ()|(apply sN ();intro hI)|(apply sI ();intro v L)|(apply sS ();clear V;intro w V)|fail)
     refine Bl rfl V rfl 1 rfl inferInstance rfl rfl ?_;exact ⟨_,rfl,S2,hS1.trans hS2,by rw [HF.out];rfl,V.sub⟩
    ·by_cases h2:(k:Int)≤o
     ·have HC:o < 0∨(k:Int)≤o∨Ea (Az ns o).1≠W[i]:=.inr (.inl h2);have HE:=Lib.hid ((Mk rfl HC).symm.trans HU.out);have HF:Hid (R=(a,b,true)):=Lib.hid (by rw [← HR.out,← HE.out];rfl);clear HE HU HR HC;have h1':¬ os[i] < 0∧(k:Int)≤os[i]:=by omega
      clear eo;repeat' (first|apply sG ()|(apply O ();go_step)|apply sX ()|(apply sN ();intro hI)|(apply sI ();intro v L)|(apply sS ();clear V;intro w V)|fail)
      refine Bl rfl V rfl 1 rfl inferInstance rfl rfl ?_;exact ⟨_,rfl,S2,hS1.trans hS2,by rw [HF.out];rfl,V.sub⟩
     ·obtain ⟨o,rfl⟩:∃ o':Nat,o=o':=⟨o.toNat,by omega⟩
      have hok:o < k:=by omega
      have hol:o < ns.length:=by omega
      have h1':¬ os[i] < 0∧os[i] < (k:Int):=by omega
      have hx1:=Be hol;obtain ⟨z,hz⟩:∃ z,(Ea ns[o].1 != W[i])=z:=⟨_,rfl⟩
      have cK:=fun {S:Ad} {M:List J} (w:World) (V:St S M w)=>Pf w V ns[o].1
      have HO:=Lib.hid eo;clear h1 h2
      cases z with
      | true =>
       have HC:(o:Int) < 0∨(k:Int)≤(o:Int)∨Ea (Az ns (o:Int)).1≠W[i]:=.inr (.inr (by rw [hx1];simpa using hz));have HE:=Lib.hid ((Mk rfl HC).symm.trans HU.out);have HF:Hid (R=(a,b,true)):=Lib.hid (by rw [← HR.out,← HE.out];rfl);clear HE HU HR HC;clear hx1 eo;repeat' ((apply ZZ 15);first|apply sG ()|(apply O ();go_step)|apply sX ()|(apply sN ();intro hI)|(apply sI ();intro v L)|fail)
       rw [HO.out];refine AD V kr ?_;clear V;intro ops;apply nW ();refine td 0 rfl ?_;refine td 1 rfl ?_;refine td 2 rfl ?_;refine tx 3 rfl (Aq X Ak rfl Y Y Af Af) ?_;rintro v L;replace L:=iN L;refine tx 4 rfl (As X Ak Y Y rfl) ?_;rintro v L;replace L:=iN L;refine tx 5 rfl (Am X Ak Y) ?_;rintro v ⟨rfl,hI⟩;(refine AQ 6 rfl kr rfl (fun S' M' w hS hM V=>cK w V) Y rfl ?_)<;>apply nW ()
       refine td 7 rfl ?_;refine td 8 rfl ?_;refine tx 9 rfl (Aq X Ak rfl Y Y Af Af) ?_;rintro v L;replace L:=iN L;refine tx 10 rfl (Am X Ak Y) ?_;rintro v ⟨rfl,hI⟩;refine tq 11 rfl (Ga rfl rfl hz) ?_;refine AJ kr ?_;clear ops;intro w V;repeat' (first|(apply O ();go_step)|apply sX ()|(apply sS ();clear V;intro w V)|fail)
       refine Bl rfl V rfl 1 rfl inferInstance rfl rfl ?_;exact ⟨_,rfl,S2,hS1.trans hS2,by rw [HF.out];rfl,V.sub⟩
      | false =>
       have HC:¬ ((o:Int) < 0∨(k:Int)≤(o:Int)∨Ea (Az ns (o:Int)).1≠W[i]):=by rintro (h|h|h);omega;omega;exact h (by rw [hx1];simpa using hz)
       have HN:=Lib.hid ((eA rfl HC).symm.trans HU.out);have bB:=KG (ns:=ns) f (o:Int) (a,b,false) (by omega) rfl;have cI:=fun {M} w (V:St S2 M w)=>ih w si sn o (a,b,false) V (HP.out.mono (HS.out.trans hS2)) (by rw [hns];exact hol) (by omega) rfl ⟨by show 0≤a;omega,by show a≤1000000;omega⟩ ⟨by show 0≤b;omega,by show b≤a+(1000000 - (o:Int));omega⟩
       rw [hns] at cI;generalize El ns f (o:Int) (a,b,false)=r at *;clear hx1 eo HC HU;repeat' ((apply ZZ 15);first|apply sG ()|(apply O ();go_step)|apply sX ()|(apply sN ();intro hI)|(apply sI ();intro v L)|fail)
       rw [HO.out];refine AD V kr ?_;clear V;intro ops;apply nW ();refine td 0 rfl ?_;refine td 1 rfl ?_;refine td 2 rfl ?_;refine tx 3 rfl (Aq X Ak rfl Y Y Af Af) ?_;rintro v L;replace L:=iN L;refine tx 4 rfl (As X Ak Y Y rfl) ?_;rintro v L;replace L:=iN L;refine tx 5 rfl (Am X Ak Y) ?_;rintro v ⟨rfl,hI⟩;(refine AQ 6 rfl kr rfl (fun S' M' w hS hM V=>cK w V) Y rfl ?_)<;>apply nW ()
       refine td 7 rfl ?_;refine td 8 rfl ?_;refine tx 9 rfl (Aq X Ak rfl Y Y Af Af) ?_;rintro v L;replace L:=iN L;refine tx 10 rfl (Am X Ak Y) ?_;rintro v ⟨rfl,hI⟩;refine tq 11 rfl (Ga rfl rfl hz) ?_;refine AJ kr ?_;clear ops;intro w V;have B1:=bB.n1;have B2:=bB.p1;have B3:=bB.n2;have B4:=bB.p2;have B5:=Lib.hid bB.ok;clear bB;simp only at B1 B2 B3 B4;repeat' (first|(apply O ();go_step)|(apply kc ();refine sc (cI _ V) ?_;clear V;rintro v w ⟨S3,hS3,rfl,V⟩)|apply sX ()|(apply sS ();clear V;intro w V)|fail)
       go_roundw
       case rel=>exact ⟨i+1,r,S3,hS2.trans hS3,by go_num,by omega,HN,⟨by omega,by omega⟩,fun h=>(by have:=B5.out h;simp only at this;exact ⟨by omega,by omega,by omega,by omega⟩),V⟩
       case measure=>simp [intOf];omega
   ·obtain rfl:i=os.length:=by omega
    have HU:=HT.out;rw [List.drop_of_length_le (Nat.le_refl _)] at HU;have HE:=Lib.hid (aG.symm.trans HU);obtain ⟨z,hz⟩:∃ z,(a != (k:Int))=z:=⟨_,rfl⟩
    have HF:Hid (R=(a+1,b,z)):=Lib.hid (by rw [← HR.out,← HE.out,← hz];rfl);clear HE HT HR HU;repeat' (first|apply sK ()|apply sG ()|(apply O ();go_step)|apply sX ()|(apply sS ();clear V;intro w V)|fail)
    refine Bl rfl V rfl 1 rfl inferInstance rfl rfl ?_;exact ⟨_,rfl,S2,hS1.trans hS2,by rw [HF.out];rfl,V.sub⟩):Gqq:=k
theorem gR {Gqq:Prop} (_:Unit) (k:Gqq:=by
 refine Bl rfl V rfl 1 rfl inferInstance rfl rfl ?_;exact ⟨_,rfl,S1,hS1,by rw [HR.out];rfl,V.sub⟩):Gqq:=k
theorem jM {Gqq:Prop} (_:Unit) (k:Gqq:=by
 repeat' (first|apply sK ()|apply sG ()|(apply O ();go_step)|apply sX ()|(apply sN ();intro hI)|(apply sI ();intro v L)|fail)
 go_ret;exact ⟨_,rfl,S,.refl _,by rw [HR.out];rfl,V.sub⟩):Gqq:=k
theorem ju {Gqq:Prop} (_:Unit) (k:Gqq:=by
 cases os with
 | nil=>cases cs<;>rfl
 | cons o' os=>cases cs with
  | nil=>rfl
  | cons c' cs=>rw [Ca,if_pos hbo]):Gqq:=k
theorem j5 {Gqq:Prop} (_:Unit) (k:Gqq:=by
 clear hx L hw hnm;go_enter Tryz.func111,Tryz.ntmps111;repeat' ((apply ZZ 1);first|(apply O ();go_step)|(apply sB ();clear V;intro bx w V)|fail)
 refine wp_region_lit ?_;repeat' (first|(apply O ();go_step)|apply sX ()|(apply sD ();intro cl hcl)|(apply sI ();intro v L)|(apply sA ();clear V;intro bk w V)|fail)
 obtain ⟨so,rfl,ho,hI1,hI2,hI3⟩:=A5 hcl;clear hcl;rw [show Z.agg Nd=true from rfl];apply nW ();repeat' (first|(apply O ();go_step)|apply sX ()|(apply sS ();clear V;intro w V)|fail)
 go_ret;exact ⟨_,rfl,rfl,V.sub⟩):Gqq:=k
theorem jZ {Gqq:Prop} (_:Unit) (k:Gqq:=by
 refine AJ kr ?_;clear ops;intro w V;repeat' (first|(apply O ();go_step)|fail)
 go_ret;exact ⟨_,rfl,rfl,V.sub⟩):Gqq:=k
theorem b1 {Gqq:Prop} (_:Unit) (k:Gqq:=by
 have e7:(p.2.1[k].1 == 7)=false:=by rw [hv];rfl
 have e8:(p.2.1[k].1 == 8)=false:=by rw [hv];rfl
 have e9:(p.2.1[k].1 == 9)=false:=by rw [hv];rfl
 have e10:(p.2.1[k].1 == 10)=false:=by rw [hv];rfl
 have e12:(p.2.1[k].1 == 12)=false:=by rw [hv];rfl
 have e11:(p.2.1[k].1 == 11)=false:=by rw [hv];rfl
 have e14:(p.2.1[k].1 == 14)=false:=by rw [hv];rfl
 obtain ⟨z1,hz1⟩:∃ z,(t0 == 1)=z:=⟨_,rfl⟩
 obtain ⟨z2,hz2⟩:∃ z,(t1 == 1)=z:=⟨_,rfl⟩
 have HR:Hid (R=(z1 && z2)):=Lib.hid (by rw [← hR,← hz1,← hz2]);clear hR hv hl b0 b1 d0 d1 hnm hw;cases z1
 ·go_enter Tryz.func68,Tryz.ntmps68;repeat' ((apply ZZ 1);first|(apply O ();go_step)|(apply sB ();clear V;intro bx w V)|fail)
  refine wp_region_lit ?_;repeat' (first|(apply O ();go_step)|apply sX ()|(apply sD ();intro cl hcl)|(apply sI ();intro v L)|(apply sA ();clear V;intro bk w V)|fail)
  obtain ⟨so,rfl,ho,hI1,hI2,hI3⟩:=A5 hcl;clear hcl;rw [show Z.agg Nd=true from rfl];apply nW ();repeat' ((apply ZZ 7);first|apply sK ()|(apply O ();go_step)|apply sX ()|(apply sS ();clear V;intro w V)|fail)
  refine AD V kr ?_;clear V;intro ops;apply nW ();refine td 0 rfl ?_;refine td 1 rfl ?_;refine td 2 rfl ?_;refine tx 3 rfl (Aq X Ak rfl Y Y Af Af) ?_;rintro v L;replace L:=iN L;refine tx 4 rfl (Am X Ak Y) ?_;rintro v ⟨rfl,hI⟩;(refine AQ 5 rfl kr rfl (fun S' M' w hS hM V=>cT0 w hS V) Y rfl ?_)<;>apply nW ()
  refine tq 6 rfl (Do rfl rfl hz1) ?_;refine td 7 rfl ?_;refine tz 8 rfl ?_;refine tz 9 rfl ?_;refine tz 10 rfl ?_;refine tz 11 rfl ?_;refine tz 12 rfl ?_;refine tz 13 rfl ?_;refine tz 14 rfl ?_;refine td 15 rfl ?_;refine td 16 rfl ?_;refine AJ kr ?_;clear ops;intro w V;repeat' (first|(apply O ();go_step)|fail)
  go_ret;exact ⟨_,rfl,by rw [HR.out];rfl,V.sub⟩
 ·go_enter Tryz.func68,Tryz.ntmps68;repeat' ((apply ZZ 1);first|(apply O ();go_step)|(apply sB ();clear V;intro bx w V)|fail)
  refine wp_region_lit ?_;repeat' (first|(apply O ();go_step)|apply sX ()|(apply sD ();intro cl hcl)|(apply sI ();intro v L)|(apply sA ();clear V;intro bk w V)|fail)
  obtain ⟨so,rfl,ho,hI1,hI2,hI3⟩:=A5 hcl;clear hcl;rw [show Z.agg Nd=true from rfl];apply nW ();repeat' ((apply ZZ 7);first|apply sK ()|(apply O ();go_step)|apply sX ()|(apply sS ();clear V;intro w V)|fail)
  refine AD V kr ?_;clear V;intro ops;apply nW ();refine td 0 rfl ?_;refine td 1 rfl ?_;refine td 2 rfl ?_;refine tx 3 rfl (Aq X Ak rfl Y Y Af Af) ?_;rintro v L;replace L:=iN L;refine tx 4 rfl (Am X Ak Y) ?_;rintro v ⟨rfl,hI⟩;(refine AQ 5 rfl kr rfl (fun S' M' w hS hM V=>cT0 w hS V) Y rfl ?_)<;>apply nW ()
  refine tq 6 rfl (Do rfl rfl hz1) ?_;refine td 7 rfl ?_;refine td 8 rfl ?_;refine td 9 rfl ?_;refine td 10 rfl ?_;refine tx 11 rfl (Aq X Ak rfl Y Y Af Af) ?_;rintro v L;replace L:=iN L;refine tx 12 rfl (Am X Ak Y) ?_;rintro v ⟨rfl,hI⟩
  ((refine AQ 13 rfl kr rfl (fun S' M' w hS hM V=>cT1 w hS V) Y rfl ?_))<;>apply nW ()
  refine tq 14 rfl (Do rfl rfl hz2) ?_;refine td 15 rfl ?_;refine td 16 rfl ?_;refine AJ kr ?_;clear ops;intro w V;repeat' (first|(apply O ();go_step)|fail)
  go_ret;exact ⟨_,rfl,by rw [HR.out];rfl,V.sub⟩):Gqq:=k
theorem b4 {Gqq:Prop} (_:Unit) (k:Gqq:=by
 refine AD V kr ?_;clear V;intro ops;apply nW ();refine td 0 rfl ?_;refine td 1 rfl ?_;refine td 2 rfl ?_;refine tx 3 rfl (Aq X Ak rfl Y Y Af Af) ?_;rintro v L;replace L:=iN L;refine tx 4 rfl (Am X Ak Y) ?_;rintro v ⟨rfl,hI⟩;(refine AQ 5 rfl kr rfl (fun S' M' w hS hM V=>cT0 w hS V) Y rfl ?_)<;>apply nW ()
 refine tq 6 rfl (Do rfl rfl hz1) ?_;refine td 7 rfl ?_;refine td 8 rfl ?_;refine td 9 rfl ?_;refine td 10 rfl ?_;refine tx 11 rfl (Aq X Ak rfl Y Y Af Af) ?_;rintro v L;replace L:=iN L;refine tx 12 rfl (Am X Ak Y) ?_;rintro v ⟨rfl,hI⟩
 ((refine AQ 13 rfl kr rfl (fun S' M' w hS hM V=>cT1 w hS V) Y rfl ?_))<;>apply nW ()
 refine tq 14 rfl (Do rfl rfl hz2) ?_;refine td 15 rfl ?_;refine td 16 rfl ?_;refine AJ kr ?_;clear ops;intro w V;repeat' (first|(apply O ();go_step)|fail)
 go_ret;exact ⟨_,rfl,by rw [HR.out];rfl,V.sub⟩):Gqq:=k
theorem b6 {Gqq:Prop} (_:Unit) (k:Gqq:=by
 refine AD V kr ?_;clear V;intro ops;apply nW ();refine td 0 rfl ?_;refine td 1 rfl ?_;refine td 2 rfl ?_;refine tx 3 rfl (Aq X Ak rfl Y Y Af Af) ?_;rintro v L;replace L:=iN L;refine tx 4 rfl (Am X Ak Y) ?_;rintro v ⟨rfl,hI⟩;(refine AQ 5 rfl kr rfl (fun S' M' w hS hM V=>cT0 w hS V) Y rfl ?_)<;>apply nW ()
 refine tq 6 rfl (Do rfl rfl hz1) ?_;refine td 7 rfl ?_;refine tz 8 rfl ?_;refine tz 9 rfl ?_;refine tz 10 rfl ?_;refine tz 11 rfl ?_;refine tz 12 rfl ?_;refine tz 13 rfl ?_;refine tz 14 rfl ?_;refine td 15 rfl ?_;refine td 16 rfl ?_;refine AJ kr ?_;clear ops;intro w V;repeat' (first|(apply O ();go_step)|fail)
 go_ret;exact ⟨_,rfl,by rw [HR.out];rfl,V.sub⟩):Gqq:=k
theorem Xc {Gqq:Prop} (_:Unit) (k:Gqq:=by
 refine AJ kr ?_;clear ops;intro w V;repeat' (first|(apply O ();go_step)|fail)
 go_ret;exact ⟨_,rfl,by rw [HR.out];rfl,V.sub⟩):Gqq:=k
theorem g5 {Gqq:Prop} (_:Unit) (k:Gqq:=by
 clear h cN
 cases z with
 | false =>
  have HF:=hno hq0;clear hq0;repeat' (first|apply sK ()|apply sG ()|(apply O ();go_step)|(apply kc ();refine sc (c1 _ V) ?_;clear V;rintro v w ⟨rfl,V⟩)|apply sX ()|(apply sS ();clear V;intro w V)|fail)
  go_ret;exact ⟨_,rfl,by rw [← HR.out,HF.out];simp,V.sub⟩
 | true =>
  have hq:=hq0;repeat' (first|apply sK ()|apply sG ()|(apply O ();go_step)|(apply kc ();refine sc (c1 _ V) ?_;clear V;rintro v w ⟨rfl,V⟩)|apply sX ()|(apply sS ();clear V;intro w V)|fail)
  go_roundw
  case rel=>exact ⟨i+1,by omega,by go_num,Lib.hid (by rw [hnx.out,HA.out,hq];rfl),V.sub⟩
  case measure=>simp [intOf];omega):Gqq:=k
theorem Xa {Gqq:Prop} (_:Unit) (k:Gqq:=by
 go_roundw
 case rel=>exact ⟨i+1,by omega,by go_num,Lib.hid (by rw [hnx.out,HA.out,hq];rfl),V.sub⟩
 case measure=>simp [intOf];omega):Gqq:=k
theorem gZ {Gqq:Prop} (_:Unit) (k:Gqq:=by
 clear hq0;repeat' (first|apply sK ()|apply sG ()|(apply O ();go_step)|(apply kc ();refine sc (c1 _ V) ?_;clear V;rintro v w ⟨rfl,V⟩)|apply sX ()|apply sP ()|(apply sI ();intro v L)|(apply sS ();clear V;intro w V)|(apply sA ();clear V;intro bk w V)|fail)
 go_ret;exact ⟨_,rfl,by rw [← HE.out,HF.out];rfl,V.sub⟩):Gqq:=k
theorem kp {Gqq:Prop} (_:Unit) (k:Gqq:=by
 refine AD V kr ?_;clear V;intro ops;apply nW ();refine td 0 rfl ?_;refine td 1 rfl ?_;refine td 2 rfl ?_;refine td 3 rfl ?_;refine td 4 rfl ?_;refine tx 5 rfl (Aq X Ak rfl Y Y Af Af) ?_;rintro v L;replace L:=iN L;refine tx 6 rfl (Am X Ak Y) ?_;rintro v ⟨rfl,hI⟩;(refine AQ 7 rfl kr rfl (fun S' M' w hS hM V=>cC2 w hS V) Y rfl ?_)<;>apply nW ()
 (refine AQ 8 rfl kr rfl (fun S' M' w hS hM V=>cA w V) Y rfl ?_)<;>apply nW ()
 refine td 9 rfl ?_;refine AJ kr ?_;clear ops;intro w V;repeat' (first|(apply O ();go_step)|fail)
 go_roundw
 case rel=>exact ⟨i+1,by omega,by rw [hsn.out],by go_num,V⟩
 case measure=>simp [intOf];omega):Gqq:=k
theorem jJ {Gqq:Prop} (_:Unit) (k:Gqq:=by
 ·obtain rfl:i=os.length:=by omega
  repeat' (first|(apply O ();go_step)|apply sX ()|fail)
  go_ret;exact ⟨_,rfl,by rw [← HR.out,List.take_length];rfl,V.sub⟩):Gqq:=k
theorem jq {Gqq:Prop} (_:Unit) (k:Gqq:=by
 obtain ⟨o,a,b,d⟩:=Ch hw hk hi;rw [b];exact ih w si sn o V (L.mono hS) hw (by omega) (by omega)):Gqq:=k
theorem kE {Gqq:Prop} (_:Unit) (k:Gqq:=by
 repeat' ((apply ZZ 1);first|(apply O ();go_step)|(apply sB ();clear V;intro bx w V)|fail)
 refine wp_region_lit ?_;repeat' (first|(apply O ();go_step)|apply sX ()|(apply sD ();intro cl hcl)|(apply sI ();intro v L)|(apply sA ();clear V;intro bk w V)|fail)
 obtain ⟨so,rfl,ho,hI1,hI2,hI3⟩:=A5 hcl;clear hcl;rw [show Z.agg Nd=true from rfl];apply nW ();repeat' ((apply ZZ 11);first|apply sK ()|(apply O ();go_step)|apply sX ()|(apply sS ();clear V;intro w V)|fail)
 refine AD V kr ?_;clear V;intro ops;apply nW ();refine td 0 rfl ?_;refine td 1 rfl ?_;refine td 2 rfl ?_;refine tx 3 rfl (Aq X Ak rfl Y Y Af Af) ?_;rintro v L;replace L:=iN L;refine tx 4 rfl (Am X Ak Y) ?_;rintro v ⟨rfl,hI⟩;(refine AQ 5 rfl kr rfl (fun S' M' w hS hM V=>cT1 w hS V) Y rfl ?_)<;>apply nW ()
 refine td 6 rfl ?_;refine AJ kr ?_;clear ops;intro w V;repeat' ((apply ZZ 14);first|apply sK ()|(apply O ();go_step)|(apply kc ();refine sc (c1 _ V) ?_;clear V;rintro v w ⟨rfl,V⟩)|apply sX ()|fail)
 refine AD V kr ?_;clear V;intro ops;apply nW ();refine td 0 rfl ?_;refine td 1 rfl ?_;refine td 2 rfl ?_;refine tx 3 rfl (Aq X Ak rfl Y Y Af Af) ?_;rintro v L;replace L:=iN L;refine tx 4 rfl (Am X Ak Y) ?_;rintro v ⟨rfl,hI⟩;(refine AQ 5 rfl kr rfl (fun S' M' w hS hM V=>cT2 w hS V) Y rfl ?_)<;>apply nW ()
 refine td 6 rfl ?_;refine AJ kr ?_;clear ops;intro w V;repeat' ((apply ZZ 17);first|(apply O ();go_step)|fail)
 refine AD V kr ?_;clear V;intro ops;apply nW ();refine td 0 rfl ?_;refine td 1 rfl ?_;refine td 2 rfl ?_;refine tx 3 rfl (Aq X Ak rfl Y Y Af Af) ?_;rintro v L;replace L:=iN L;refine tx 4 rfl (Am X Ak Y) ?_;rintro v ⟨rfl,hI⟩;(refine AQ 5 rfl kr rfl (fun S' M' w hS hM V=>cT0 w hS V) Y rfl ?_)<;>apply nW ()
 (refine AQ 6 rfl kr rfl (fun S' M' w hS hM V=>c0 w V) Y rfl ?_)<;>apply nW ()
 refine td 7 rfl ?_;(refine AQ 8 rfl kr rfl (fun S' M' w hS hM V=>c2 w V) Y rfl ?_)<;>apply nW ()
 refine td 9 rfl ?_;refine AJ kr ?_;clear ops;intro w V;repeat' (first|(apply O ();go_step)|fail)
 go_ret;exact ⟨_,rfl,rfl,V.sub⟩):Gqq:=k
theorem jP {Gqq:Prop} (_:Unit) (k:Gqq:=by
 repeat' (first|go_skip|apply sK ()|apply sG ()|(apply O ();go_step)|(apply kc ();refine sc (cR _ V) ?_;clear V;rintro v w ⟨rfl,V⟩)|apply sX ()|fail)
 go_ret;exact ⟨_,rfl,S1,hS1,by rw [HE.out];rfl,V.sub⟩):Gqq:=k
theorem gT {Gqq:Prop} (_:Unit) (k:Gqq:=by
 simp only [List.length_append,i1,List.length_cons,List.length_nil,List.map_cons,List.map_nil,List.sum_cons,List.sum_nil];omega):Gqq:=k
theorem gY {Gqq:Prop} (_:Unit) (k:Gqq:=by
 repeat' (first|apply sK ()|(apply O ();go_step)|(apply kc ();refine sc (cO _ V) ?_;clear V;rintro v w ⟨S3,so3,co3,hS3,rfl,hC3,V⟩)|(apply sN ();intro hI)|(apply sI ();intro v L)|fail)
 go_ret;exact ⟨_,rfl,S3,so3,co3,hSS2.trans hS3,rfl,by rw [← HR.out];exact hC3,by rw [← HR.out];exact V⟩):Gqq:=k
theorem b3 {Gqq:Prop} (_:Unit) (k:Gqq:=by
 rw [← hnl.out] at hm1;simp only [List.length_nil,Nat.zero_add] at hm1;have hb1:=HB.out i hlt (pos+(n:Int));have hsn:Hid (Bz (AH p f) ((p.2.1[k]).2.2.2.1.take (i+1)) pos []=Bz (AH p f) ((p.2.1[k]).2.2.2.1.take i) pos []++AH p f (AU p.2.1[k] i) (pos+(n:Int))):=Lib.hid (by rw [List.take_succ_eq_append_getElem hlt,Ns,← hnl.out,Ii hlt]);have cM:=fun {S':Ad} {M:List J} (w:World) (V:St S' M w) (cl:List Value) (hR:Z.R S' cl p)=>HC.out i hlt w V cl hR (pos+(n:Int)) (by omega)
 generalize AH p f (AU p.2.1[k] i) (pos+(n:Int))=B at *;repeat' ((apply ZZ 20);first|(apply O ();go_step)|apply sX ()|(apply sL ();intro v hvl hv1)|(apply sI ();intro v L)|fail)
 refine Bm V kr ?_;clear V;intro w V;have hSS:=Cn V;apply nW ();refine pd 0 rfl ?_;refine px 1 rfl (Aw (y:=p) X hpp Y) ?_;rintro v1 ⟨c1,rfl,hc1⟩;refine px 2 rfl (As X hpn Y Y rfl) ?_;rintro v2 hp2;refine px 3 rfl (Aj X hp2 Y) ?_;rintro v3 ⟨hv3,hv31⟩;replace hv3:RSl T v3 (p.2.1[k]).2.2.2.1:=hv3;refine pd 4 rfl ?_;refine px 5 rfl (Aq X hv3 rfl Y Y Af Af) ?_;rintro v5 hp5;replace hp5:=iN hp5;refine px 6 rfl (Am X hp5 Y) ?_;rintro v6 ⟨rfl,hI4⟩;refine pd 7 rfl ?_;refine pd 8 rfl ?_;refine po 9 rfl ?_;intro K G;refine Ag V (Ie X SlIn.h Y) ?_;refine pn G ?_;clear G K;refine pt 10 rfl (by exact DC rfl rfl Af) ?_;refine po 11 rfl ?_;intro K G;refine sc (cM w V c1 (Z.mono hSS hc1)) ?_;clear V;rintro v11 w ⟨S3,so3,hS3,rfl,hX3,V⟩;replace hSS:=hSS.trans hS3;refine pn G ?_;clear G K;refine po 12 rfl ?_;intro K G;refine Bj V X X SlIn.h hX3 Y Y Y (by omega) (by omega) (by decide) ?_;clear V;intro x12 w d12 hd12 V;have hone12:=BE (k:=0) V rfl;(try replace V:=nH V);refine pn G ?_;clear G K;refine pd 13 rfl ?_;refine AK kr ?_;obtain ⟨ay,cy,rfl⟩:=Go.Sl.sl_formk (k:=0) V rfl;repeat' (first|(apply O ();go_step)|fail)
 go_roundw
 case rel=>exact ⟨i+1,n+B.length,S3,ay,cy,co1++d12,by omega,hT.trans hS3,rfl,by go_num,Lib.hid (by rw [hsn.out,List.length_append,hnl.out]),by rw [hsn.out];exact (hC.mono hS3).append hd12,V⟩
 case measure=>simp [intOf];omega):Gqq:=k
theorem aw {Gqq:Prop} (_:Unit) (k:Gqq:=by
 refine Ay (vs:=[]) (cs:=[]) V (by infer_instance) (by infer_instance) rfl rfl (by simp) rfl (by omega) (by omega) ?_;clear V;intro u w V;refine nY ?_;repeat' (first|(apply O ();go_step)|fail)
 refine Bj (k:=0) V X X rfl hv' (by infer_instance) (by infer_instance) (by infer_instance) (by first|(simp;done)|(simp at hm ⊢;omega)) (by first|(simp;done)|(simp at hm ⊢;omega)) (by decide) ?_;clear V;intro v' w c' hc V;refine nY ?_;repeat' (first|(apply O ();go_step)|fail)
 go_ret;refine ⟨_,rfl,c',hc,?_⟩;simp only [List.set_cons_zero,List.nil_append,Nat.zero_add] at V;exact V):Gqq:=k
theorem jR {Gqq:Prop} (_:Unit) (k:Gqq:=by
 refine td 16 rfl ?_;refine AJ kr ?_;clear ops;intro w V;repeat' (first|(apply O ();go_step)|fail)
 go_roundw
 case rel=>exact ⟨i+1,c',ys,by omega,by go_num,hR,Lib.hid ⟨hU.out.1,hso.out,hU.out.2.2⟩,V⟩
 case measure=>simp [intOf];omega):Gqq:=k
theorem kx {Gqq:Prop} (_:Unit) (k:Gqq:=by
 have hY:=Lib.hid (hZ.out.sort (show q≤zs.length by rw [hzl];omega) hu3.out hs3.out);by_cases hq2:q < e∧e < b
 ·have hle2:b - q≤Lqq:=by omega
  repeat' (first|apply sG ()|(apply O ();go_step)|(apply kc ();refine sc (ih _ sv Nqq ys1 hl1 c3 V hR3 q e b hq2.1 hq2.2 hb hx hle2 hz3 hz4 hY) ?_;clear V;rintro v w ⟨c4,ys2,hR4,hu4,hs4,V⟩)|fail)
  go_end0
  exact ⟨_,rfl,c4,ys2,hR4,((hup.out.trans (hu3.out.wide (Nat.le_refl _) (by omega))).trans (hu4.wide (by omega) (Nat.le_refl _))),J8 hx1.out hu3.out hs3.out hu4 hs4,V⟩
 ·have hs4:=Lib.hid (show Bn Cb AI ys1 q b by
   by_cases k1:q < e
   ·have:e=b:=by omega
    rw [this] at hz3;exact hz3
   ·have:e=q:=by omega
    rw [this] at hz4;exact hz4)
  repeat' (first|apply sG ()|(with_reducible refine Sl.k_guard ?_;refine Sl.guard_cases rfl ?_ ?_<;>intro hg<;>first|exact gX|(simp only [hg,Bool.not_true,Bool.not_false])<;>(try replace hg:=gN hg)<;>apply nW ())|(apply O ();go_step)|fail)
  all_goals first
   | (exfalso;omega)
   | (go_end0;exact ⟨_,rfl,c3,ys1,hR3,hup.out.trans (hu3.out.wide (Nat.le_refl _) (by omega)),J8 hx1.out hu3.out hs3.out (CD.refl q b ys1) hs4.out,V⟩)):Gqq:=k
theorem kw {Gqq:Prop} (_:Unit) (k:Gqq:=by
 have hY:=Lib.hid (hZ.out.sort (show q≤zs.length by rw [hzl];omega) hu3.out hs3.out);by_cases hq2:q < e∧e < b
 ·have hle2:b - q≤Lqq:=by omega
  repeat' (first|apply sG ()|(apply O ();go_step)|(apply kc ();refine sc (ih _ sv Nqq ys1 hl1 c3 V hR3 q e b hq2.1 hq2.2 hb hx hle2 hz3 hz4 hY) ?_;clear V;rintro v w ⟨c4,ys2,hR4,hu4,hs4,V⟩)|fail)
  go_end0
  exact ⟨_,rfl,c4,ys2,hR4,((hup.out.trans (hu3.out.wide (Nat.le_refl _) (by omega))).trans (hu4.wide (by omega) (Nat.le_refl _))),J8 hx1.out hu3.out hs3.out hu4 hs4,V⟩
 ·have hs4:=Lib.hid (show Bn Cb AI ys1 q b by
   by_cases k1:q < e
   ·have:e=b:=by omega
    rw [this] at hz3;exact hz3
   ·have:e=q:=by omega
    rw [this] at hz4;exact hz4)
  repeat' (first|go_skip|(with_reducible refine Sl.k_guard ?_;(refine Sl.guard_cases rfl ?_ ?_<;>intro hg<;>first|exact gX|(simp only [hg,Bool.not_true,Bool.not_false]))<;>(try replace hg:=gN hg)<;>apply nW ())|(apply O ();go_step)|fail)
  all_goals first
   | (exfalso;omega)
   | (go_end0;exact ⟨_,rfl,c3,ys1,hR3,hup.out.trans (hu3.out.wide (Nat.le_refl _) (by omega)),J8 hx1.out hu3.out hs3.out (CD.refl q b ys1) hs4.out,V⟩)):Gqq:=k
theorem jO {Gqq:Prop} (_:Unit) (k:Gqq:=by
 refine AJ kr ?_;clear ops;intro w V;repeat' (first|(apply O ();go_step)|fail)
 go_roundw
 case rel=>exact ⟨h+1,j,by omega,by go_num,rfl,Lib.hid ⟨hnx.out,hse.out.2⟩,V⟩
 case measure=>simp [intOf];omega):Gqq:=k
theorem jN {Gqq:Prop} (_:Unit) (k:Gqq:=by
 refine AJ kr ?_;clear ops;intro w V;repeat' (first|(apply O ();go_step)|fail)
 go_roundw
 case rel=>exact ⟨i,h,by omega,rfl,rfl,Lib.hid ⟨hse.out.1,hnx.out⟩,V⟩
 case measure=>simp [intOf];omega):Gqq:=k
theorem jE {Gqq:Prop} (_:Unit) (k:Gqq:=by
 clear e;repeat' (first|(apply O ();go_step)|fail)
 refine bodyPost_ret (results_none rfl _ _ _) rfl ?_;exact ⟨_,rfl,c',ys,hR,hE.out.1,hE.out.2,V⟩):Gqq:=k
theorem jw {Gqq:Prop} (_:Unit) (k:Gqq:=by
 by_cases k1:a < s
 ·have:s=q:=by omega
  rw [this] at hz1;exact hz1
 ·have:s=a:=by omega
  rw [this] at hz2;exact hz2):Gqq:=k
theorem jD {Gqq:Prop} (_:Unit) (k:Gqq:=by
 refine ((List.Perm.swap a (BR e) _).trans (List.Perm.cons a ((List.Perm.swap b (BR e) _).trans (List.Perm.cons b ?_))));exact List.perm_middle.symm):Gqq:=k
theorem jV {Gqq:Prop} (_:Unit) (k:Gqq:=by
 refine Bc rfl (AZ V rfl _ N.h Y rfl rfl) (A8 rfl) ?_;(try simp only [AV,List.drop_zero,List.drop_succ_cons,List.take_succ_cons,List.take_zero,AB,Ap]);exact ⟨_,rfl,S2,Gm,hle2,by rw [← HN.out],by rw [← HN.out];exact VN,V.drop⟩):Gqq:=k
theorem jL {Gqq:Prop} (_:Unit) (k:Gqq:=by
 rw [← hzb];exact GX w V (.slice ea exs.length ec) exs (hre.mono (hT.trans hT1')) (by omega) _ (by infer_instance) [pQ] _ (fun x w hx V=>V8 w V pQ qs[i] hpq x)):Gqq:=k
theorem au {Gqq:Prop} (_:Unit) (k:Gqq:=by
 refine Eh c rfl (by infer_instance) rfl rfl ?_;clear V c;rintro v w ⟨rfl,V⟩;refine nX ?_;repeat' (first|(apply O ();go_step)|fail)
 go_roundw
 case rel =>
  refine ⟨i+1,by omega,by go_num,?_⟩;rw [Wh,hin,Ko hlt];exact (fL [_,_,_] V).drop
 case measure=>simp [intOf];omega):Gqq:=k
theorem jI {Gqq:Prop} (_:Unit) (k:Gqq:=by
 ·repeat' (first|(apply O ();go_step)|fail)
  go_end0
  refine ⟨_,rfl,rfl,?_⟩;rw [SW hg0,← show i=nd.2.2.2.1.length by omega];exact V.drop.drop):Gqq:=k
theorem j8 {Gqq:Prop} (_:Unit) (k:Gqq:=by
 refine Ay (vs:=[]) (cs:=[]) V (by infer_instance) (by infer_instance) rfl rfl (by simp) rfl (by omega) (by omega) ?_;clear V;intro u w V;refine nX ?_;repeat' (first|(apply O ();go_step)|fail)
 refine Bj (k:=0) V X X rfl hv' (by infer_instance) (by infer_instance) (by infer_instance) (by first|(simp;done)|(simp at hm ⊢;omega)) (by first|(simp;done)|(simp at hm ⊢;omega)) (by decide) ?_;clear V;intro v' w c' hc V;refine nX ?_;repeat' (first|(apply O ();go_step)|fail)
 go_ret;refine ⟨_,rfl,?_⟩;rw [bJ hc] at V;simp at V;exact V):Gqq:=k
theorem gP {Gqq:Prop} (_:Unit) (k:Gqq:=by
 refine ⟨i+1,by omega,by go_num,?_,?_⟩
 ·rw [Ik,hlk.out]
 ·rw [Ik,hlk.out];exact V):Gqq:=k
theorem ku {Gqq:Prop} (_:Unit) (k:Gqq:=by
 clear HR hq;repeat' ((apply ZZ 4);first|(apply O ();go_step)|(apply tL ();refine An V (Aw (y:=ev) X hpe Y) ?_;rintro v34 ⟨c34,rfl,hc34⟩<;>apply nZ ())|(apply kc ();refine sc (cC _ V c34 hc34) ?_;clear V;rintro v w ⟨rfl,V⟩)|fail)
 refine Bm V kr ?_;clear V;intro w V;have hSS:=Cn V;apply nZ ();refine px 0 rfl (Aw (y:=ev) X hpe Y) ?_;rintro v0 ⟨c0,rfl,hc0⟩;refine pt 2 rfl (BW (y:=r) X hpr Y Y rfl) ?_;refine po 1 rfl ?_;intro K G;refine sc (cG w V c0 hc0) ?_;clear V;rintro v1 w ⟨rfl,V⟩;refine pn G ?_;clear G K;refine pt 3 rfl (ET rfl rfl (Dm hok) (Dm hr) Y Y Y hdc) ?_;refine AK kr ?_;repeat' (first|(apply O ();go_step)|fail)
 go_ret;exact ⟨_,rfl,by rw [← HN.out];rfl,St.weaken hle V⟩):Gqq:=k
theorem jQ {Gqq:Prop} (_:Unit) (k:Gqq:=by
 refine td 12 rfl ?_;refine AJ kr ?_;clear ops;intro w V;repeat' (first|(apply O ();go_step)|fail)
 go_ret2
 exact ⟨_,rfl,T5,(none,0,0),hle3.trans (hT4.trans hT5),by rw [← HNf.out];rfl,by rw [← HNf.out];exact Mp,V.drop⟩):Gqq:=k
theorem gQ {Gqq:Prop} (_:Unit) (k:Gqq:=by
 go_ret2
 exact ⟨_,rfl,S1,(none,0,0),hS1,by rw [← HN.out];rfl,by rw [← HN.out];exact Mp,V⟩):Gqq:=k
theorem gS {Gqq:Prop} (_:Unit) (k:Gqq:=by
 ·obtain rfl:i=xs.length:=by omega
  repeat' (first|(apply O ();go_step)|apply sY ()|fail)
  go_ret;exact ⟨_,rfl,rfl,V⟩):Gqq:=k
theorem gM {Gqq:Prop} (_:Unit) (k:Gqq:=by
 go_roundw
 case rel=>exact ⟨i+1,by omega,by go_num,V⟩
 case measure=>simp [intOf];omega):Gqq:=k
theorem jH {Gqq:Prop} (_:Unit) (k:Gqq:=by
 refine AK kr ?_;repeat' (first|(apply O ();go_step)|fail)
 go_roundw
 case rel=>exact ⟨j+1,by omega,by go_num,V⟩
 case measure=>simp [intOf];omega):Gqq:=k
theorem jy {Gqq:Prop} (_:Unit) (k:Gqq:=by
 have hl':cl.length=2:=hl
 match cl,hl' with
 | [a,b],_ =>
  have f1:a=_:=(List.cons.inj e1).1;have f2:b=_:=(List.cons.inj e2).1;rw [f1,f2]):Gqq:=k
theorem jx {Gqq:Prop} (_:Unit) (k:Gqq:=by
 go_roundw
 case rel=>exact ⟨g+1,T3,by omega,hT2.trans hT3,by rw [HSN.out];rfl,by go_num,V⟩
 case measure=>simp [intOf];omega):Gqq:=k
theorem jK {Gqq:Prop} (_:Unit) (k:Gqq:=by
 go_ret;refine ⟨_,rfl,?_,V⟩;rw [hE.out];(try simp only [beq_iff_eq,beq_eq_false_iff_ne,ne_eq] at *)
 first
  | (rw [if_pos (by omega)];rfl)
  | (rw [if_neg (by omega)];rfl)):Gqq:=k
theorem b9 {Gqq:Prop} (_:Unit) (k:Gqq:=by
 repeat' (first|(apply O ();go_step)|fail)
 refine Ag V (GR (i:=i) (m:=n) rfl rfl rfl rfl rfl Y (by omega) (by omega)) ?_;apply nW ();by_cases h12:n - i > 12
 ·have HN:=Lib.hid (HR.out.symm.trans (RN hlt hk.out (by rw [hE.out];exact h12)));clear HR;have h13:(n:Int) - (i:Int) > 12:=by omega
  repeat' (first|apply sG ()|(apply O ();go_step)|(apply sS ();clear V;intro w V)|(apply sA ();clear V;intro bk w V)|fail)
  refine Bc rfl (A8 rfl) (A8 rfl) ?_;(try simp only [AV,List.drop_zero,List.drop_succ_cons,List.take_succ_cons,List.take_zero,AB,Ap]);refine ⟨_,rfl,S,(none,0,0),.refl _,by rw [HN.out],by rw [HN.out];exact ID,V.drop.drop⟩
 ·have HN:=Lib.hid ((RM (f:=f) (out:=out) hlt hk.out (by rw [hE.out];exact h12)).symm.trans HR.out);rw [hE.out] at HN;clear HR;have h13:(n:Int) - (i:Int)≤12:=by omega
  repeat' ((apply ZZ 32);first|apply sG ()|(apply O ();go_step)|(apply sS ();clear V;intro w V)|(apply sA ();clear V;intro bk w V)|fail)
  repeat' (first|(apply O ();go_step)|apply sX ()|fail)
  refine Ay (vs:=[(.agg #[.int .i64 1,.string ⟨((s.drop i).take (n - i)).toArray⟩,.int .i64 0,.int .i64 (i:Int)])]) V Y Y rfl rfl (by simp [Value.cells]) rfl (by omega) (by omega) ?_;clear V;intro u w V;simp only [List.set_cons_succ,List.set_cons_zero,AB,Ap,List.drop_succ_cons,List.drop_zero,List.take_succ_cons,List.take_zero,Bq,Int.toNat_zero,Int.reduceToNat,Nat.mul_one,Nat.zero_add,Nat.add_zero,Nat.reduceMul,Nat.reduceAdd,Nat.zero_mul,Int.reduceSub,Int.reduceAdd,Int.reduceMul,Int.reduceNeg,Bool.not_true,Bool.not_false];refine AF (j:=0) V X X SlIn.h rfl Y Y Y (by simp [Value.cells,Value.oneCell']) (by omega) (by omega) (by decide) ?_;clear V;intro v' w V;simp only [List.set_cons_succ,List.set_cons_zero,AB,Ap,List.drop_succ_cons,List.drop_zero,List.take_succ_cons,List.take_zero,Bq,Int.toNat_zero,Int.reduceToNat,Nat.mul_one,Nat.zero_add,Nat.add_zero,Nat.reduceMul,Nat.reduceAdd,Nat.zero_mul,Int.reduceSub,Int.reduceAdd,Int.reduceMul,Int.reduceNeg,Bool.not_true,Bool.not_false];(try replace V:=nH V);replace V:=V.drop;obtain ⟨ay,cy,rfl⟩:=Go.Sl.sl_formk (k:=1) V rfl;apply nW ();repeat' (first|(apply O ();go_step)|fail)
  go_roundw
  case rel=>exact ⟨f,n,_,(ay,out.length+1,cy),_,rfl,by go_num,HN,by omega,by simp only [List.length_append,List.length_cons,List.length_nil];omega,hR.append (RL.one_mk (Yz (s:=⟨((s.drop i).take (n - i))⟩) (Ah (by decide)) (by unfold maxLen;simp only [List.length_take,List.length_drop];omega) (Ah (by decide)) (Ah ⟨by omega,by omega⟩))),by simpa using V.drop⟩
  case measure=>simp [intOf];omega):Gqq:=k
theorem kD {Gqq:Prop} (_:Unit) (k:Gqq:=by
 repeat' (first|(apply O ();go_step)|apply sX ()|fail)
 refine Ay (vs:=[(.agg #[.int .i64 2,.string ⟨((s.drop i).take (n - i)).toArray⟩,.int .i64 v,.int .i64 (i:Int)])]) V Y Y rfl rfl (by simp [Value.cells]) rfl (by omega) (by omega) ?_;clear V;intro u w V;simp only [List.set_cons_succ,List.set_cons_zero,AB,Ap,List.drop_succ_cons,List.drop_zero,List.take_succ_cons,List.take_zero,Bq,Int.toNat_zero,Int.reduceToNat,Nat.mul_one,Nat.zero_add,Nat.add_zero,Nat.reduceMul,Nat.reduceAdd,Nat.zero_mul,Int.reduceSub,Int.reduceAdd,Int.reduceMul,Int.reduceNeg,Bool.not_true,Bool.not_false];refine AF (j:=0) V X X SlIn.h rfl Y Y Y (by simp [Value.cells,Value.oneCell']) (by omega) (by omega) (by decide) ?_;clear V;intro v' w V;simp only [List.set_cons_succ,List.set_cons_zero,AB,Ap,List.drop_succ_cons,List.drop_zero,List.take_succ_cons,List.take_zero,Bq,Int.toNat_zero,Int.reduceToNat,Nat.mul_one,Nat.zero_add,Nat.add_zero,Nat.reduceMul,Nat.reduceAdd,Nat.zero_mul,Int.reduceSub,Int.reduceAdd,Int.reduceMul,Int.reduceNeg,Bool.not_true,Bool.not_false];(try replace V:=nH V);replace V:=V.drop;obtain ⟨ay,cy,rfl⟩:=Go.Sl.sl_formk (k:=1) V rfl;apply nW ();repeat' (first|(apply O ();go_step)|fail)
 go_roundw
 case rel=>exact ⟨f,n,_,(ay,out.length+1,cy),_,rfl,by go_num,HN,by omega,by simp only [List.length_append,List.length_cons,List.length_nil];omega,hR.append (RL.one_mk (Yz (s:=⟨((s.drop i).take (n - i))⟩) (Ah (by decide)) (by unfold maxLen;simp only [List.length_take,List.length_drop];omega) (Ah ⟨by omega,by omega⟩) (Ah ⟨by omega,by omega⟩))),by simpa using V.drop⟩
 case measure=>simp [intOf];omega):Gqq:=k
theorem j4 {Gqq:Prop} (_:Unit) (k:Gqq:=by
 rw [hq] at cX;clear hc hq hn9 hcn;repeat' (first|(apply tX ();refine Ag V (by exact Cd X X StrT.u Af Af) ?_<;>apply nW ())|apply sG ()|(apply O ();go_step)|(apply kc ();refine sc (cX _ V) ?_;clear V;rintro v w ⟨rfl,V⟩)|(apply kc ();refine Ag V (by exact AW X Y) ?_<;>apply nW ())|fail)
 go_roundw
 case rel=>exact ⟨f',n+1,by go_num,HNx,by omega,V⟩
 case measure=>simp [intOf];omega):Gqq:=k
theorem jT {Gqq:Prop} (_:Unit) (k:Gqq:=by
 refine Bc rfl (A8 rfl) (A8 rfl) ?_;(try simp only [AV,List.drop_zero,List.drop_succ_cons,List.take_succ_cons,List.take_zero,AB,Ap]);refine ⟨_,rfl,S,(none,0,0),.refl _,by rw [HN.out],by rw [HN.out];exact ID,V.drop⟩):Gqq:=k
theorem kn {Gqq:Prop} (_:Unit) (k:Gqq:=by
 repeat' (first|(apply tB ();refine Ag V (AA rfl rfl Y hz4) ?_<;>apply nW ())|(apply tB ();refine Ag V (AA rfl rfl Y hz5) ?_<;>apply nW ())|apply sK ()|apply sG ()|(apply O ();go_step)|(apply tL ();refine An V (AO X Ak Y) ?_;rintro v ⟨rfl,hs⟩<;>apply nW ())|(apply kc ();refine Ag V (by exact Fy rfl rfl) ?_<;>apply nW ())|(apply sN ();intro hI)|(apply sI ();intro v L)|fail)
 go_roundw
 case rel=>exact ⟨i+1,(n+1 - 1),max m (n+1 - 1),by omega,by go_num,by go_num,by go_num,HN,by omega,V⟩
 case measure=>simp [intOf];omega):Gqq:=k
theorem ke {Gqq:Prop} (_:Unit) (k:Gqq:=by
 repeat' (first|(apply tB ();refine Ag V (AA rfl rfl Y hz4) ?_<;>apply nW ())|(apply tB ();refine Ag V (AA rfl rfl Y hz5) ?_<;>apply nW ())|apply sK ()|apply sG ()|(apply O ();go_step)|(apply tL ();refine An V (AO X Ak Y) ?_;rintro v ⟨rfl,hs⟩<;>apply nW ())|(apply kc ();refine Ag V (by exact Fy rfl rfl) ?_<;>apply nW ())|(apply sN ();intro hI)|(apply sI ();intro v L)|fail)
 go_roundw
 case rel=>exact ⟨i+1,(n+1),max m (n+1),by omega,by go_num,by go_num,by go_num,HN,by omega,V⟩
 case measure=>simp [intOf];omega):Gqq:=k
theorem j6 {Gqq:Prop} (_:Unit) (k:Gqq:=by
 repeat' (first|(apply tB ();refine Ag V (AA rfl rfl Y hz4) ?_<;>apply nW ())|apply sK ()|apply sG ()|(apply O ();go_step)|(apply tL ();refine An V (AO X Ak Y) ?_;rintro v ⟨rfl,hs⟩<;>apply nW ())|(apply kc ();refine Ag V (by exact Fy rfl rfl) ?_<;>apply nW ())|(apply sN ();intro hI)|(apply sI ();intro v L)|fail)
 go_roundw
 case rel=>exact ⟨i+1,(n+1 - 1),max m (n+1 - 1),by omega,by go_num,by go_num,by go_num,HN,by omega,V⟩
 case measure=>simp [intOf];omega):Gqq:=k
theorem jC {Gqq:Prop} (_:Unit) (k:Gqq:=by
 go_roundw
 case rel=>exact ⟨i+1,(n - 1),max m (n - 1),by omega,by go_num,by go_num,by go_num,HN,by omega,V⟩
 case measure=>simp [intOf];omega):Gqq:=k
theorem jS {Gqq:Prop} (_:Unit) (k:Gqq:=by
 refine Bc rfl (AZ V rfl _ N.h Y rfl rfl) (A8 rfl) ?_;(try simp only [AV,List.drop_zero,List.drop_succ_cons,List.take_succ_cons,List.take_zero,AB,Ap]);exact ⟨_,rfl,by rw [← HR.out];exact Kn hS1 V.sub⟩):Gqq:=k
theorem gV {Gqq:Prop} (_:Unit) (k:Gqq:=by
 refine Bl rfl V rfl 0 rfl inferInstance rfl rfl ?_;exact ⟨_,rfl,S,s,_,_,_,_,Ad.Le.refl _,rfl,rfl,rfl,rfl,rfl,V.drop.drop.drop⟩):Gqq:=k
theorem am {Gqq:Prop} (_:Unit) (k:Gqq:=by
 repeat' (first|(apply O ();go_step)|apply sX ()|(apply sS ();clear V;intro w V)|fail)
 refine Bl rfl V rfl 1 rfl inferInstance rfl rfl ?_;exact ⟨_,rfl,S2,_,_,_,_,hS2,rfl,hvv.mono hS2,hsz,hvp.mono hS2,hvn.mono hS2,V.drop.drop.drop.drop⟩):Gqq:=k
theorem ky {Gqq:Prop} (_:Unit) (k:Gqq:=by
 go_enter Tryz.func72,Tryz.ntmps72;repeat' ((apply ZZ 8);first|apply sG ()|(with_reducible refine Sl.k_guard ?_;refine Sl.guard_cases rfl ?_ ?_<;>intro hg<;>first|exact gX|(simp only [hg,Bool.not_true,Bool.not_false])<;>(try replace hg:=gN hg)<;>apply nW ())|(apply O ();go_step)|apply sX ()|apply sP ()|(apply sI ();intro v L)|(apply sS ();clear V;intro w V)|(apply sB ();clear V;intro bx w V)|(apply sA ();clear V;intro bk w V)|fail)
 rw [hi] at V L ⊢;simp only [Ee] at V ⊢;repeat' (first|apply sG ()|(apply O ();go_step)|(apply kc ();refine sc (rp _ _ V) ?_;clear V;rintro v w ⟨rfl,V⟩)|apply sX ()|fail)
 refine CG (a:=0) (b:=s.stack.length) X hvs Y Y (.inl ⟨rfl,rfl⟩) (.inr ⟨.i64,by simp [Ai,AV]⟩) (.inl rfl) (by omega) (by omega) ?_;intro vz hvz;rw [List.drop_zero,Nat.sub_zero,List.take_length] at hvz;obtain ⟨ay,ny,cy,rfl⟩:=Ae hvz;apply nW ();have hzin:=gd.stack;repeat' (first|(apply O ();go_step)|apply sX ()|(apply sS ();clear V;intro w V)|fail)
 refine Bl rfl V rfl 1 rfl inferInstance rfl rfl ?_;exact ⟨_,rfl,S,_,_,_,_,Ad.Le.refl _,rfl,hvv,hvz,hvp,hvn,V.drop.drop.drop.drop⟩):Gqq:=k
theorem b13 {Gqq:Prop} (_:Unit) (k:Gqq:=by
 unfold Ac;obtain ⟨ai,ni,ci,rfl⟩:=Ae hvi;obtain ⟨av,nv,cv,rfl⟩:=Ae hvv;obtain ⟨az,nz,cz,rfl⟩:=Ae hvs;obtain ⟨ap,np,cp,rfl⟩:=Ae hvp;obtain ⟨an,nn,cn,rfl⟩:=Ae hvn;have hsl:=gd.slen;have rp:∀ (M:List J) (w:World),St S M w→Ac Tryz.prog 115 [.int .i64 17] w fun v w'=>v=.int .i64 0∧St S M w':=fun M w V=>BI w V 17 (by decide)
 go_enter Tryz.func72,Tryz.ntmps72;repeat' ((apply ZZ 8);first|apply sG ()|(with_reducible refine Sl.k_guard ?_;refine Sl.guard_cases rfl ?_ ?_<;>intro hg<;>first|exact gX|(simp only [hg,Bool.not_true,Bool.not_false])<;>(try replace hg:=gN hg)<;>apply nW ())|(apply O ();go_step)|apply sX ()|apply sP ()|(apply sI ();intro v L)|(apply sS ();clear V;intro w V)|(apply sB ();clear V;intro bx w V)|(apply sA ();clear V;intro bk w V)|fail)
 rw [hi] at V L ⊢;simp only [Ee] at V ⊢;obtain ⟨k,rfl⟩:∃ k:Nat,a=(k:Int):=⟨a.toNat,by omega⟩
 simp only [Int.toNat_natCast] at hx ⊢;repeat' (first|apply sG ()|(apply O ();go_step)|(apply kc ();refine sc (rp _ _ V) ?_;clear V;rintro v w ⟨rfl,V⟩)|apply sX ()|fail)
 refine CG (a:=0) (b:=s.stack.length) X hvs Y Y (.inl ⟨rfl,rfl⟩) (.inr ⟨.i64,by simp [Ai,AV]⟩) (.inl rfl) (by omega) (by omega) ?_;intro vz hvz;rw [List.drop_zero,Nat.sub_zero,List.take_length] at hvz;obtain ⟨ay,ny,cy,rfl⟩:=Ae hvz;apply nW ();have hzin:=gd.stack;have hw:=gd.vars _ (List.getElem_mem (show k < s.vars.length by omega));have hw0:=hw.1;have hw1:=hw.2;have rb:=fun (M:List J) (w:World) (V:St S M w)=>F6 w V _ s.vars hvv (by omega) k (by omega) (0) (by unfold Au;omega)
 repeat' (first|(apply O ();go_step)|(apply kc ();refine sc (rb _ _ V) ?_;clear V;rintro v w ⟨S2,a2,n2,c2,hS2,rfl,hsv,V⟩)|apply sX ()|(apply sN ();intro hI)|(apply sI ();intro v L)|(apply sS ();clear V;intro w V)|fail)
 refine Bl rfl V rfl 1 rfl inferInstance rfl rfl ?_;exact ⟨_,rfl,S2,_,_,_,_,hS2,rfl,hsv,hvz.mono hS2,hvp.mono hS2,hvn.mono hS2,V.drop.drop.drop.drop⟩):Gqq:=k
theorem SO {Gqq:Prop} (_:Unit) (k:Gqq:=by
 refine Bl rfl V rfl 1 rfl inferInstance rfl rfl ?_;exact ⟨_,rfl,S,s,_,_,_,_,Ad.Le.refl _,rfl,rfl,rfl,rfl,rfl,V.drop.drop.drop.drop⟩):Gqq:=k
theorem b5 {Gqq:Prop} (_:Unit) (k:Gqq:=by
 refine AD V kr ?_;clear V;intro ops;apply nW ();refine td 0 rfl ?_;refine td 1 rfl ?_;refine td 2 rfl ?_;refine td 3 rfl ?_;refine td 4 rfl ?_;refine td 5 rfl ?_;refine td 6 rfl ?_;refine td 7 rfl ?_;refine td 8 rfl ?_;refine td 9 rfl ?_;refine tx 10 rfl (Aq X hvp rfl Y Y Af Af) ?_;rintro v10 hp10;replace hp10:=iN hp10;refine tx 11 rfl (Am X hp10 Y) ?_;rintro v11 ⟨rfl,h11⟩;refine td 12 rfl ?_;refine tq 13 rfl (fo rfl rfl hpin ⟨by decide,by decide⟩) ?_;refine AP 14 rfl kr ?_;intro w V K G;refine BG (rb _ _ V) Y rfl ?_;clear V;rintro v w ⟨S2,a2,n2,c2,hS2,rfl,hsv,V⟩;apply nW ();(try replace V:=nH V);refine Bg G V hS2 (Suf.refl _) ?_;clear V G K;(try clear w);apply nW ();refine td 15 rfl ?_;refine td 16 rfl ?_;refine AP 17 rfl kr ?_;intro w V K G;(refine Ax V rfl _ N.h Y X rfl A3 A2 (by simp<;>omega) ?_);clear V;intro w V;apply nW ();(try replace V:=nH V);refine Bb G V ?_;clear V G K;(try clear w);apply nW ();refine AJ kr ?_;clear ops;intro w V;all_goals trace_state
 repeat' (first|(apply O ();go_step)|apply sX ()|(apply sS ();clear V;intro w V)|fail)
 refine Bl rfl V rfl 1 rfl inferInstance rfl rfl ?_;exact ⟨_,rfl,S2,_,_,_,_,hS2,rfl,hvv.mono hS2,hzs▸hvz.mono hS2,hsv,hvn.mono hS2,V.drop.drop.drop.drop⟩):Gqq:=k
theorem jG {Gqq:Prop} (_:Unit) (k:Gqq:=by
 refine Bl rfl V rfl 1 rfl inferInstance rfl rfl ?_;exact ⟨_,rfl,S,BO s,_,_,_,_,Ad.Le.refl _,rfl,rfl,rfl,rfl,rfl,V.drop.drop.drop.drop⟩):Gqq:=k
theorem aq {Gqq:Prop} (_:Unit) (k:Gqq:=by
 refine Bc rfl (AZ V rfl _ N.h Y rfl rfl) (A8 rfl) ?_;(try simp only [AV,List.drop_zero,List.drop_succ_cons,List.take_succ_cons,List.take_zero,AB,Ap]);exact ⟨_,rfl,S,_,_,_,_,_,_,Ad.Le.refl S,rfl,Ij,Ij,V.drop.drop⟩):Gqq:=k
theorem jU {Gqq:Prop} (_:Unit) (k:Gqq:=by
 refine Bc rfl (AZ V rfl _ N.h Y rfl rfl) (A8 rfl) ?_;(try simp only [AV,List.drop_zero,List.drop_succ_cons,List.take_succ_cons,List.take_zero,AB,Ap]);exact ⟨_,rfl,S1,_,_,_,_,_,_,hS1,rfl,Ij,Ij,V.drop.drop.drop.drop⟩):Gqq:=k
theorem kt {Gqq:Prop} (_:Unit) (k:Gqq:=by
 refine Ay (vs:=[(.int .i64 ((((l[i]).2.1[j]).toNat:Int) % max 1 xs[j].2.2.2.1))]) V Y Y rfl rfl (by simp [Value.cells]) rfl (by omega) (by omega) ?_;clear V;intro u w V;refine nY ?_;refine AF (j:=0) V X X SlIn.h rfl Y Y Y (by simp [Value.cells,Value.oneCell']) (by omega) (by omega) (by decide) ?_;clear V;intro v' w V;refine nY ?_;(try replace V:=nH V);replace V:=V.drop;obtain ⟨ay,cy,hso⟩:=Go.Sl.sl_formk (k:=1) V rfl;subst hso;apply nZ ();repeat' (first|(apply O ();go_step)|fail)
 go_roundw
 case rel=>exact ⟨j+1,ay,cy,ci++[.int .i64 ((((l[i]).2.1[j]).toNat:Int) % max 1 xs[j].2.2.2.1)],by omega,rfl,by go_num,by rw [hsn.out,hvq.out];exact hC.append (Cw (Ah (by rw [← hvq.out];omega))),V.drop⟩
 case measure=>simp [intOf];omega):Gqq:=k
theorem j9 {Gqq:Prop} (_:Unit) (k:Gqq:=by
 repeat' (first|apply sK ()|apply sG ()|(apply O ();go_step)|(apply kc ();refine BG (cC _ hle2 V) Y rfl ?_;clear V;rintro v w ⟨T3,sc,hT3,rfl,hc,V⟩<;>apply nZ ()<;>(try replace V:=nH V))|(apply tL ();refine Ag V (by exact BB X N.h Y FS) ?_<;>apply nZ ())|(apply sT ();clear V;intro w V)|(apply sZ ();clear V;intro bk w V)|fail)
 go_roundw
 case rel=>exact ⟨i+1,n,T3,a,sp,sg,cp,cg,by omega,by omega,by omega,hT.trans (hT1.trans (hT2.trans hT3)),rfl,rfl,by go_num,HB,HN,hP2.mono hT3,hG2.mono hT3,V.sub⟩
 case measure=>simp [intOf];omega):Gqq:=k
end Go.Sl
