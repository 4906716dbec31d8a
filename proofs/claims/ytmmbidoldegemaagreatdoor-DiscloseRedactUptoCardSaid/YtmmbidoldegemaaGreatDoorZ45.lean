/- Part 46 of a proof; no conditions. -/
import Derived.Test.YtmmbidoldegemaaGreatDoorZ44
set_option linter.all false
set_option maxRecDepth 8000
set_option maxHeartbeats 8000000
namespace Go.Proofs.YtmmbidoldegemaaGreatDoor
open Go.RowKit Go.Sl Go.Srt Go.Proofs.Tryz
set_option maxRecDepth 60000 in
theorem wO (hB:ja) (hSan:l9) {S M} (w) (V:St S M w) (hG:Bu S) (vl) (l:List Rn) (hl:RSl S vl l) (hm:l.length≤1048576) (m) (hm16:m.l.length=16) (pk kpq0:UInt32):
  Ac prog 5 [vl,Cu m,.int .u32 (pk.toNat:Int),.int .u32 (kpq0.toNat:Int)] w fun v w'=>v=.bool true∧St S M w':=by
 unfold Ac
 haveI:LenIs m.l 16:=⟨hm16⟩
 obtain ⟨q1,q2,q3⟩:=dZ l;have qbq0:=we l;have cB:=fun {M} w (V:St S M w)=>hB w V vl l hl hm
 obtain ⟨BP,hBP⟩:∃ r,F2 l=r:=⟨_,rfl⟩
 rw [hBP] at q1 q2 q3 qbq0 cB;clear hBP;obtain ⟨pgs,Lqq⟩:=BP;simp only at q1 q2 q3;have hok:∀ e∈Lqq,JD e:=fun e he=>iY (q3 e he)
 go_enter func5,ntmps5;repeat' ((apply ZZ 1);first|(apply O ();go_step)|(apply sC ();clear V;intro bx w V)|fail)
 repeat' ((apply ZZ 2);first|(apply O ();go_step)|(apply kc ();refine sc (cB _ V) ?_;clear V;rintro v w ⟨S1,sp,sg,hS1,rfl,hP,hL,V⟩)|fail)
 have hL:RSl S1 (Ar sg) Lqq:=hL;have hP:RSl S1 (Ar sp) pgs:=hP;have hG1:=hG.mono hS1;have cA:=fun {S' M} w (hS:S1.Le S') (V:St S' M w) (pk:UInt32)=>i6 w V (Ar sg) Lqq (hL.mono hS) (by omega) (fun e he=>(q3 e he).2.1) pk
 have cM:=fun {S' M} w (hS:S1.Le S') (V:St S' M w) (so:Sv) (i:List (Int×Int)) (hi:RSl S' (Ar so) i) (hpb:H0 Lqq Lqq.length 0 i) (hil:i.length≤8 * Lqq.length)=>TR w V (hG1.mono hS) m hm16 (Ar sg) Lqq (hL.mono hS) (by omega) hok (Ar so) i hi (by omega) (VV hpb) (VU hpb)
 rename Nat=>bm
 refine wg [26,27,28,29,30,31,25,32,33,11,12] (fun vs w=>∃ s26 s27 s28 s29 s30 s31 s25 s32 s33 s11 s12:Value,vs=[s26,s27,s28,s29,s30,s31,s25,s32,s33,s11,s12]∧(∃ (S2:Ad) (b:Nat) (cs:List Value) (i:List (Int×Int)),S1.Le S2∧s11=.pointer (some ⟨b,0,none⟩)∧s12=.int .i64 0∧Z.R S2 cs (EM m Lqq i)∧H0 Lqq Lqq.length 0 i∧i.length≤8 * Lqq.length∧St S2 (.box b cs 27::.box bm (u8s m.l) 23::M) w)) ?_ ?_
 rotate_left
 clear V;rintro _ w ⟨s26,s27,s28,s29,s30,s31,s25,s32,s33,s11,s12,rfl,S2,b2,cs2,iiq0,hS2,rfl,rfl,hR2,hpb2,hil2,V⟩;simp only [uR,uY];apply nZ ()
 rotate_left
 ·intro Q' hQ';refine AD V kr ?_;clear V;intro ops;apply nZ ();refine tq 0 rfl (by exact Gc X N.h Y Y) ?_;refine td 1 rfl ?_;refine td 2 rfl ?_;refine td 3 rfl ?_;refine Lv 4 9 rfl rfl kr ?_ ?_;intro w V K G;refine BG (cA w (Ad.Le.refl _) V pk) Y rfl ?_;clear V;rintro v1 w ⟨T1,so1,iiq0,hT1,rfl,hI1,hpb,hil,V⟩;apply nZ ();(try replace V:=nH V);refine Bg G V hT1 (Suf.refl _) ?_;clear V G K;(try clear w);apply nZ ();refine Lv 5 9 rfl rfl kr ?_ ?_;intro w V K G;refine BG (cM w hT1 V so1 iiq0 hI1 hpb hil) Y rfl ?_;clear V;rintro v5 w ⟨T5,cs5,hT5,rfl,hR5,V⟩;apply nZ ();(try replace V:=nH V);refine Bg G V hT5 (Suf.refl _) ?_;clear V G K;(try clear w);apply nZ ();refine td 6 rfl ?_;refine td 7 rfl ?_;(refine ED 8 rfl kr rfl rfl (fun _ _=>by exact Ng rfl rfl) ?_)<;>apply nZ ()
  refine AP 9 rfl kr ?_;intro w V K G;refine BF V Y ?_;clear V;intro b9 w V;apply nZ ();(try replace V:=nH V);apply vC ();clear V G K;(try clear w);apply nZ ()
  rotate_left
  intro w V K G;refine BF V Y ?_;clear V;intro b9 w V;apply nZ ();(try replace V:=nH V);apply vC ();clear V G K;(try clear w);apply nZ ();refine AP 5 rfl kr ?_;intro w V K G;refine BG (cM w hT1 V so1 iiq0 hI1 hpb hil) Y rfl ?_;clear V;rintro v5 w ⟨T5,cs5,hT5,rfl,hR5,V⟩;apply nZ ();(try replace V:=nH V);refine Bg G V hT5 (Suf.refl _) ?_;clear V G K;(try clear w);apply nZ ();refine td 6 rfl ?_;refine td 7 rfl ?_;(refine ED 8 rfl kr rfl rfl (fun _ _=>by exact Ng rfl rfl) ?_)<;>apply nZ ()
  rotate_left
  intro w V K G;refine BF V Y ?_;clear V;intro b9 w V;apply nZ ();(try replace V:=nH V);apply vC ();clear V G K;(try clear w);apply nZ ();refine AP 4 rfl kr ?_;intro w V K G;refine BG (cA w (Ad.Le.refl _) V pk) Y rfl ?_;clear V;rintro v1 w ⟨T1,so1,iiq0,hT1,rfl,hI1,hpb,hil,V⟩;apply nZ ();(try replace V:=nH V);refine Bg G V hT1 (Suf.refl _) ?_;clear V G K;(try clear w);apply nZ ();refine AP 5 rfl kr ?_;intro w V K G;refine BG (cM w hT1 V so1 iiq0 hI1 hpb hil) Y rfl ?_;clear V;rintro v5 w ⟨T5,cs5,hT5,rfl,hR5,V⟩;apply nZ ();(try replace V:=nH V);refine Bg G V hT5 (Suf.refl _) ?_;clear V G K;(try clear w);apply nZ ();refine td 6 rfl ?_;refine td 7 rfl ?_;(refine ED 8 rfl kr rfl rfl (fun _ _=>by exact Ng rfl rfl) ?_)<;>apply nZ ()
  all_goals
   refine AP 10 rfl kr ?_;intro w V K G;refine Cf V rfl N.h Y (x0:=EM m Lqq iiq0) (cs:=cs5) X hR5 rfl ?_;clear V;intro w V;apply nZ ();(try replace V:=nH V);refine Bb G V ?_;clear V G K;(try clear w);apply nZ ();refine td 11 rfl ?_;refine AJ kr ?_;clear ops;intro w V;refine hQ' [_,_,_,_,_,_,_,_,_,_,_] w ⟨_,_,_,_,_,_,_,_,_,_,_,rfl,?_⟩;(exact ⟨_,_,_,_,hT1.trans hT5,rfl,rfl,hR5,hpb,hil,V⟩)
 repeat' ((apply ZZ 3);first|(apply O ();go_step)|fail)
 obtain ⟨S3,hS3,hst1,hpE⟩:=AC (α:=Cz) V hR2 (Z.len hR2);clear V;have V:=hst1;clear hst1;generalize Value.pointer (some ⟨b2,0,none⟩)=pE at *;have hle:=hS2.trans hS3;have ini:=VV hpb2;have ni:=VU hpb2;clear hR2 hS2 hS3 cM;have cA3:=fun {S' M} w (hS:S3.Le S') (V:St S' M w)=>cA w (hle.trans hS) V kpq0
 have cR:=fun {S' M} w (hS:S3.Le S') (V:St S' M w) cs (hR:Z.R S3 cs (EM m Lqq iiq0)) (so:Sv) (ks:List (Int×Int)) (hk:RSl S' (Ar so) ks) (hil:ks.length≤8 * Lqq.length)=>wM w V cs (Z.mono hS hR) ini (by omega) (Ar so) hk (by omega)
 refine wg [34,35,36,37,38,13] (fun vs w=>∃ s34 s35 s36 s37 s38 s13:Value,vs=[s34,s35,s36,s37,s38,s13]∧(∃ (S4:Ad) (b:Nat) (cs:List Value) (ks:List (Int×Int)),S3.Le S4∧s13=.pointer (some ⟨b,0,none⟩)∧Z.R S4 cs (EM m Lqq (iiq0.filter fun r=>decide (r∈ks)))∧St S4 (.box b cs 27::.box bm (u8s m.l) 23::M) w)) ?_ ?_
 rotate_left
 clear V;rintro _ w ⟨s34,s35,s36,s37,s38,s13,rfl,S4,b4,cs4,ks,hS4,rfl,hR4,V⟩;simp only [uR,uY];apply nZ ()
 rotate_left
 ·intro Q' hQ';refine AD V kr ?_;clear V;intro ops;apply nZ ();refine tx 0 rfl (Aw (y:=EM m Lqq iiq0) X hpE Y) ?_;rintro v0 ⟨c0,rfl,hc0⟩;refine td 1 rfl ?_;refine td 2 rfl ?_;refine Lv 3 5 rfl rfl kr ?_ ?_;intro w V K G;refine BG (cA3 w (Ad.Le.refl _) V) Y rfl ?_;clear V;rintro v3 w ⟨T3,so3,ks,hT3,rfl,hI3,hpb3,hil3,V⟩;apply nZ ();(try replace V:=nH V);refine Bg G V hT3 (Suf.refl _) ?_;clear V G K;(try clear w);apply nZ ();refine Lv 4 5 rfl rfl kr ?_ ?_;intro w V K G;refine BG (cR w hT3 V c0 hc0 so3 ks hI3 hil3) Y rfl ?_;clear V;rintro v4 w ⟨T4,cs6,hT4,rfl,hR6,V⟩;apply nZ ();(try replace V:=nH V);refine Bg G V hT4 (Suf.refl _) ?_;clear V G K;(try clear w);apply nZ ();refine AP 5 rfl kr ?_;intro w V K G;refine BF V Y ?_;clear V;intro b5 w V;apply nZ ();(try replace V:=nH V);apply vC ();clear V G K;(try clear w);apply nZ ()
  rotate_left
  intro w V K G;refine BF V Y ?_;clear V;intro b5 w V;apply nZ ();(try replace V:=nH V);apply vC ();clear V G K;(try clear w);apply nZ ();refine AP 4 rfl kr ?_;intro w V K G;refine BG (cR w hT3 V c0 hc0 so3 ks hI3 hil3) Y rfl ?_;clear V;rintro v4 w ⟨T4,cs6,hT4,rfl,hR6,V⟩;apply nZ ();(try replace V:=nH V);refine Bg G V hT4 (Suf.refl _) ?_;clear V G K;(try clear w);apply nZ ()
  rotate_left
  intro w V K G;refine BF V Y ?_;clear V;intro b5 w V;apply nZ ();(try replace V:=nH V);apply vC ();clear V G K;(try clear w);apply nZ ();refine AP 3 rfl kr ?_;intro w V K G;refine BG (cA3 w (Ad.Le.refl _) V) Y rfl ?_;clear V;rintro v3 w ⟨T3,so3,ks,hT3,rfl,hI3,hpb3,hil3,V⟩;apply nZ ();(try replace V:=nH V);refine Bg G V hT3 (Suf.refl _) ?_;clear V G K;(try clear w);apply nZ ();refine AP 4 rfl kr ?_;intro w V K G;refine BG (cR w hT3 V c0 hc0 so3 ks hI3 hil3) Y rfl ?_;clear V;rintro v4 w ⟨T4,cs6,hT4,rfl,hR6,V⟩;apply nZ ();(try replace V:=nH V);refine Bg G V hT4 (Suf.refl _) ?_;clear V G K;(try clear w);apply nZ ()
  all_goals
   refine AP 6 rfl kr ?_;intro w V K G;refine Cf V rfl N.h Y (x0:=EM m Lqq (iiq0.filter fun r=>decide (r∈ks))) (cs:=cs6) X hR6 rfl ?_;clear V;intro w V;apply nZ ();(try replace V:=nH V);refine Bb G V ?_;clear V G K;(try clear w);apply nZ ();refine AJ kr ?_;clear ops;intro w V;refine hQ' [_,_,_,_,_,_] w ⟨_,_,_,_,_,_,rfl,?_⟩;(exact ⟨_,_,_,_,hT3.trans hT4,rfl,hR6,V⟩)
 repeat' ((apply ZZ 4);first|(apply O ();go_step)|fail)
 obtain ⟨S5,hS5,hst1,hpL⟩:=AC (α:=Cz) V hR4 (Z.len hR4);clear V;have V:=hst1;clear hst1;generalize Value.pointer (some ⟨b4,0,none⟩)=pL at *;replace hpE:=Pt.mono (hS4.trans hS5) hpE;have hle5:=hle.trans (hS4.trans hS5);have hjl:(iiq0.filter fun r=>decide (r∈ks)).length≤iiq0.length:=List.length_filter_le _ _;have hjs:∀ r∈iiq0.filter (fun r=>decide (r∈ks)),r∈iiq0:=fun r hr=>(List.mem_filter.1 hr).1
 have hjn:(iiq0.filter fun r=>decide (r∈ks)).Nodup:=ni.filter _;clear hR4 hS4 hS5 cA3 cR cA hle;generalize (iiq0.filter fun r=>decide (r∈ks))=jjq0 at *;obtain ⟨K,K2q0,G,hK2,hKl,hKl2,hAg⟩:=wv (m:=m) qbq0 ini ni hjs hjn;have inj:=fun r hr=>ini r (hjs r hr)
 have hL5:=hL.mono hle5;have hP5:=hP.mono hle5;have hG5:=hG1.mono hle5;have hrng:=wG qbq0;have cK1:=fun {S' M} w (hS:S5.Le S') (V:St S' M w) cs (hR:Z.R S' cs (EM m Lqq iiq0))=>wA w V (hG5.mono hS) cs hR qbq0 hok (by omega) (by omega) (Ar sp) (hP5.mono hS) G
 have cK2:=fun {S' M} w (hS:S5.Le S') (V:St S' M w) cs (hR:Z.R S' cs (EM m Lqq jjq0))=>wA w V (hG5.mono hS) cs hR qbq0 hok (by omega) (by omega) (Ar sp) (hP5.mono hS) hK2
 have cF:=fun {S' M} w (hS:S5.Le S') (V:St S' M w)=>gu w V (hG5.mono hS) m hm16 (Ar sg) Lqq (hL5.mono hS) (by omega) hok
 have cV:=fun {S' M} w (hS:S5.Le S') (V:St S' M w) cs (hR:Z.R S' cs (EM m Lqq jjq0))=>wK w V (hG5.mono hS) cs hR hrng hok (by omega) (by omega) inj hjn
 have hlp:(EM m Lqq jjq0).2.2.1.length≤(EM m Lqq iiq0).2.2.1.length:=by
  show (jjq0.map (FB Lqq)).length≤(iiq0.map (FB Lqq)).length;rw [List.length_map,List.length_map];exact hjl
 clear hL hP hG1 hjs;generalize E8 m Lqq=F at *;obtain ⟨E,hE⟩:∃ E,EM m Lqq iiq0=E:=⟨_,rfl⟩
 obtain ⟨E2,hE2⟩:∃ E,EM m Lqq jjq0=E:=⟨_,rfl⟩
 rw [hE] at hpE cK1 hlp;rw [hE2] at hpL cK2 cV hlp;have HAg:=Lib.hid hAg;clear hE hE2 G hK2 hAg ini ni inj hjn;repeat' ((apply ZZ 5);first|(apply O ();go_step)|(apply tL ();refine An V (Aw (y:=E) X hpE Y) ?_;rintro v40 ⟨c40,rfl,hc40⟩<;>apply nZ ())|(apply kc ();refine sc (cK1 _ (Ad.Le.refl _) V _ hc40) ?_;clear V;rintro v w ⟨S6,so,hS6,rfl,hKs,V⟩)|fail)
 replace hpE:=Pt.mono hS6 hpE;replace hpL:=Pt.mono hS6 hpL;repeat' ((apply ZZ 6);first|(apply O ();go_step)|(apply tL ();refine An V (Aw (y:=E2) X hpL Y) ?_;rintro v46 ⟨c46,rfl,hc46⟩<;>apply nZ ())|(apply kc ();refine sc (cK2 _ hS6 V _ hc46) ?_;clear V;rintro v w ⟨S7,so2,hS7,rfl,hKs2,V⟩)|fail)
 replace hpE:=Pt.mono hS7 hpE;replace hpL:=Pt.mono hS7 hpL;replace hKs:=hKs.mono hS7;have hle7:=hS6.trans hS7;have hlK:((K.length:Int) != (K2q0.length:Int))=false:=by rw [hKl,hKl2];simp
 have cF7:=fun {S' M} w (hS:S7.Le S') (V:St S' M w)=>cF w (hle7.trans hS) V
 have cV7:=fun {S' M} w (hS:S7.Le S') (V:St S' M w) cs (hR:Z.R S7 cs E2)=>cV w (hle7.trans hS) V cs (Z.mono hS hR)
 have hleA:=hle5.trans hle7;clear cF cV cK1 cK2 hL5 hP5 hG5 hle5 hc40 hc46;refine AD V kr ?_;clear V;intro ops;apply nZ ();refine td 0 rfl ?_;refine tq 1 rfl (Ga rfl rfl (show ((0:Int) != 0)=false from rfl)) ?_;refine td 2 rfl ?_;refine td 3 rfl ?_;refine tq 4 rfl (Ga rfl rfl (show ((0:Int) != 0)=false from rfl)) ?_;refine td 5 rfl ?_;refine td 6 rfl ?_;refine td 7 rfl ?_;refine tq 8 rfl (Ga rfl rfl (show ((0:Int) != 0)=false from rfl)) ?_;refine td 9 rfl ?_;refine td 10 rfl ?_;refine td 11 rfl ?_;refine td 12 rfl ?_;refine td 13 rfl ?_;refine td 14 rfl ?_;refine tq 15 rfl (Ga rfl rfl hlK) ?_;refine td 16 rfl ?_;refine td 17 rfl ?_;refine tx 18 rfl (Aw (y:=E2) X hpL Y) ?_;rintro v18 ⟨c18,rfl,hc18⟩;refine tq 19 rfl (Gc X N.h Y Y) ?_;refine td 20 rfl ?_
 ((refine AQ 21 rfl kr rfl (fun S' M' w hS hM V=>cF7 w hS V) Y rfl ?_))<;>apply nZ ()
 ((refine AQ 22 rfl kr rfl (fun S' M' w hS hM V=>cV7 w hS V c18 hc18) Y rfl ?_))<;>apply nZ ()
 refine tq 23 rfl (Ga rfl rfl (show ((0:Int) != 0)=false from rfl)) ?_;refine td 24 rfl ?_;refine AJ kr ?_;clear ops;intro w V;clear cF7 cV7 hlK;repeat' (first|(apply O ();go_step)|apply sY ()|fail)
 go_loopw [78] (fun u78 wr=>∃ k:Nat,k≤K.length∧u78=.int .i64 (k:Int)∧St S7 (.box bm (u8s m.l) 23::M) wr) (fun v _=>K.length - (intOf v).toNat)
 case atStart=>exact ⟨0,Nat.zero_le _,rfl,V⟩
 case round =>
  clear V;obtain ⟨k,hk2,rfl,V⟩:=hrel;by_cases hkl:k < K.length
  ·have hkl2:k < K2q0.length:=by omega
   have hA:=(HAg.out k hkl hkl2).1;have hy8:=(HAg.out k hkl hkl2).2;have h8:Lqq.length≤4:=by omega
   generalize hy:K[k]=y at *;generalize hy2:K2q0[k]=y2 at *;have HYq0:=Lib.hid hy;have HY2:=Lib.hid hy2;have HA:=Lib.hid hA;have hll:=hA.1;have hlk:((y.length:Int) != (y2.length:Int))=false:=by rw [hll];simp
   clear hy hy2 hA;repeat' ((apply ZZ 11);first|(apply O ();go_step)|fail)
   refine AD V kr ?_;clear V;intro ops;apply nZ ();refine td 0 rfl ?_;refine td 1 rfl ?_;refine tx 2 rfl (Aq X hKs rfl Y Y Af Af) ?_;rintro v2 hp2;replace hp2:=iN hp2;rw [HYq0.out] at hp2;refine tx 3 rfl (Aj (y:=y) X hp2 Y) ?_;rintro v3 ⟨hv3,hv31⟩;refine td 4 rfl ?_;refine td 5 rfl ?_;refine td 6 rfl ?_;refine tx 7 rfl (Aq X hKs2 rfl Y Y Af Af) ?_;rintro v7 hp7;replace hp7:=iN hp7;rw [HY2.out] at hp7;refine tx 8 rfl (Aj (y:=y2) X hp7 Y) ?_;rintro v8 ⟨hv8,hv81⟩;refine td 9 rfl ?_;refine tq 10 rfl (Ga rfl rfl hlk) ?_;refine AJ kr ?_;clear ops;intro w V;repeat' ((apply ZZ 14);first|(apply tI ();refine An V (Aq X hKs rfl Y Y Af Af) ?_;rintro v94 hp94;simp only [Int.toNat_natCast] at hp94;rw [HYq0.out] at hp94<;>apply nZ ())|(apply O ();go_step)|(apply tL ();refine An V (Aj (y:=y) X hp94 Y) ?_;rintro v95 ⟨hv95,hv951⟩<;>apply nZ ())|apply sY ()|fail)
   go_loopw [97] (fun u97 wr=>∃ j:Nat,j≤y.length∧u97=.int .i64 (j:Int)∧St S7 (.box bm (u8s m.l) 23::M) wr) (fun v _=>y.length - (intOf v).toNat)
   case atStart=>exact ⟨0,Nat.zero_le _,rfl,V⟩
   case round =>
    clear V;rename_i j0 hlt0;obtain ⟨j,hj2,rfl,V⟩:=hrel;by_cases hjl:j < y.length
    ·have hjx:j < y2.length:=by omega
     have hag:=HA.out.2 j;rw [List.getD_eq_getElem?_getD,List.getD_eq_getElem?_getD,List.getElem?_eq_getElem hjl,List.getElem?_eq_getElem hjx] at hag;simp only [Option.getD_some] at hag;obtain ⟨z,hz⟩:∃ z,(y2[j] != -1)=z:=⟨_,rfl⟩
     repeat' ((apply ZZ 16);first|(apply O ();go_step)|fail)
     refine AD V kr ?_;clear V;intro ops;apply nZ ();refine td 0 rfl ?_;refine td 1 rfl ?_;refine tx 2 rfl (Aq X hKs2 rfl Y Y Af Af) ?_;rintro v2 hp2;replace hp2:=iN hp2;rw [HY2.out] at hp2;refine tx 3 rfl (Aj (y:=y2) X hp2 Y) ?_;rintro v3 ⟨hv3,hv31⟩;refine td 4 rfl ?_;refine tx 5 rfl (Aq X hv3 rfl Y Y Af Af) ?_;rintro v5 hp5;replace hp5:=iN hp5;refine tx 6 rfl (Am X hp5 Y) ?_;rintro v6 ⟨rfl,hI6⟩
     cases z with
     | false =>
      clear hag;refine tq 7 rfl (Ga rfl rfl hz) ?_;refine td 8 rfl ?_;refine tz 9 rfl ?_;refine tz 10 rfl ?_;refine tz 11 rfl ?_;refine tz 12 rfl ?_;refine tz 13 rfl ?_;refine tz 14 rfl ?_;refine tz 15 rfl ?_;refine tz 16 rfl ?_;refine tz 17 rfl ?_;refine tz 18 rfl ?_;refine tz 19 rfl ?_;refine tz 20 rfl ?_;refine tz 21 rfl ?_;refine tz 22 rfl ?_;refine tz 23 rfl ?_;apply wQ ()
     | true =>
      have hz2:(y2[j] != y[j])=false:=by
       rcases hag with g|g
       ·rw [g] at hz;simp at hz
       ·rw [g];simp
      clear hag;refine tq 7 rfl (Ga rfl rfl hz) ?_;refine td 8 rfl ?_;refine td 9 rfl ?_;refine td 10 rfl ?_;refine tx 11 rfl (Aq X hKs2 rfl Y Y Af Af) ?_;rintro v11 hp11;replace hp11:=iN hp11;rw [HY2.out] at hp11;refine tx 12 rfl (Aj (y:=y2) X hp11 Y) ?_;rintro v12 ⟨hv12,hv121⟩;refine td 13 rfl ?_;refine tx 14 rfl (Aq X hv12 rfl Y Y Af Af) ?_;rintro v14 hp14;replace hp14:=iN hp14;refine tx 15 rfl (Am X hp14 Y) ?_;rintro v15 ⟨rfl,hI15⟩;refine td 16 rfl ?_;refine td 17 rfl ?_;refine tx 18 rfl (Aq X hKs rfl Y Y Af Af) ?_;rintro v18 hp18;replace hp18:=iN hp18;rw [HYq0.out] at hp18;refine tx 19 rfl (Aj (y:=y) X hp18 Y) ?_;rintro v19 ⟨hv19,hv191⟩;refine td 20 rfl ?_;refine tx 21 rfl (Aq X hv19 rfl Y Y Af Af) ?_;rintro v21 hp21;replace hp21:=iN hp21;refine tx 22 rfl (Am X hp21 Y) ?_;rintro v22 ⟨rfl,hI22⟩;refine tq 23 rfl (Ga rfl rfl hz2) ?_;apply wQ ()
    ·obtain rfl:j=y.length:=by omega
     repeat' (first|(apply O ();go_step)|fail)
     go_roundw
     case rel=>exact ⟨k+1,by omega,by go_num,V⟩
     case measure=>simp [intOf];omega
  ·obtain rfl:k=K.length:=by omega
   have hGT:=hG.mono (hS1.trans hleA);have cS:=fun {M} w (V:St S7 M w)=>hSan w V hGT
   have hlq:decide ((E2.2.2.1.length:Int)≤(E.2.2.1.length:Int))=true:=decide_eq_true (by omega);repeat' (first|apply sK ()|apply sG ()|(apply O ();go_step)|(apply tL ();first|(refine An V (Aj (y:=E2.2.2.1) X Ak Y) ?_;rintro v130 ⟨hv130,hv1301⟩)|(refine An V (Aj (y:=E.2.2.1) X Ak Y) ?_;rintro v133 ⟨hv133,hv1331⟩)<;>apply nZ ())|(apply kc ();refine sc (cS _ V) ?_;clear V;rintro v w ⟨rfl,V⟩)|apply sY ()|(apply sJ ();intro v L)|fail)
   go_ret;exact ⟨_,rfl,rfl,St.weaken (hS1.trans hleA) V.drop⟩
end Go.Proofs.YtmmbidoldegemaaGreatDoor
namespace Go.Proofs.YtmmbidoldegemaaGreatDoor
open Go.RowKit Go.Sl Go.Proofs.Tryz
theorem Yx:SR:=fun w V hvi hvm hvv hvs hvp hvn gd _ hgl hgm h4 h8=>eM w V hvi hvm hvv hvs hvp hvn gd hgl hgm h4 h8
theorem Mr {S cl} {x:Rn} (h:Z.R S cl x):∃ so:Sv,cl=[.string ⟨x.1.b.toArray⟩,.slice so.1 so.2.1 so.2.2]∧RSl S (Ar so) x.2.1:=by
 obtain ⟨hl,h1,h2⟩:=h;obtain ⟨hl2,h3,h4⟩:=h2;obtain ⟨e1,i1⟩:=h1;obtain ⟨v,e2,h9⟩:=h3;obtain ⟨a,n,c,rfl⟩:=BQ h9;refine ⟨(a,n,c),?_,h9⟩;apply jy ()
theorem Zh {S cl} {x:Ip} (h:Z.R S cl x):cl=[.string ⟨x.1.b.toArray⟩,.int .i64 x.2.1,.int .i64 x.2.2.1,.int .i64 x.2.2.2.1]∧Au x.2.1∧Au x.2.2.1∧Au x.2.2.2.1:=by
 obtain ⟨hl,h1,h2⟩:=h;obtain ⟨hl2,h3,h4⟩:=h2;obtain ⟨hl3,h5,h6⟩:=h4;obtain ⟨hl4,h7,h8⟩:=h6;obtain ⟨e1,i1⟩:=h1;obtain ⟨e2,i2⟩:=h3;obtain ⟨e3,i3⟩:=h5;obtain ⟨e4,i4⟩:=h7;refine ⟨?_,i2,i3,i4⟩;apply ak ()
abbrev Rb (S:Ad) (M:List J) (r:List Pg×List Ev) (v:Value) (w:World):Prop :=
 ∃ S' sp sl:_,S.Le S'∧v=.tuple #[Ar sp,Ar sl]∧RSl S' (Ar sp) r.1∧RSl S' (Ar sl) r.2∧St S' M w
section
variable {x:Rn} {p:Pg} {e:Int}
theorem eV (h:Cq x.1.b=(p,e)) (he:e≠0):GN x=none:=by unfold GN;rw [h,if_pos (.inl he)]
theorem eU (h:Cq x.1.b=(p,e)) (hc:BH p≠0):GN x=none:=by unfold GN;rw [h,if_pos (.inr (.inr hc))]
theorem eS (h:Cq x.1.b=(p,0)) (hc:BH p=0):GN x=if (H3 (Jn p) (Ef x.2.1 p.1 0) []).2≠0 then none else some (p,Ef x.2.1 p.1 0,(H3 (Jn p) (Ef x.2.1 p.1 0) []).1):=by
 unfold GN;rw [h,if_neg (by simp only [hc,LN hc];simp)]
end
theorem Pi {l:List Rn} {i a} (h) (hs:i≥4∨(l[i]).1.b.length > 400):Du (l.drop i) i a=a:=by
 rw [List.drop_eq_getElem_cons h,Du,if_pos hs]
theorem WZ {l:List Rn} {i:Nat} {a} (h) (hs:¬ (i≥4∨(l[i]).1.b.length > 400)) (hr:GN l[i]=none):Du (l.drop i) i a=Du (l.drop (i+1)) (i+1) a:=by
 rw [List.drop_eq_getElem_cons h,Du,if_neg hs,hr]
theorem WY {l:List Rn} {i:Nat} {a} {p ins o} (h) (hs:¬ (i≥4∨(l[i]).1.b.length > 400)) (hr:GN l[i]=some (p,ins,o)):Du (l.drop i) i a=Du (l.drop (i+1)) (i+1) (a.1++[p],a.2++[Ot i ins o]):=by
 rw [List.drop_eq_getElem_cons h,Du,if_neg hs,hr]
theorem Sq (bs:List UInt8):∀ (xs:List Ip) (i:Nat),(Ef bs xs i).length=xs.length
 | [],_=>rfl
 | d::r,i=>by rw [Ef,List.length_cons,List.length_cons,Sq bs r]
theorem Qr (bs:List UInt8):∀ (xs:List Ip) (d:Ip) (i:Nat),Ef bs (xs++[d]) i=Ef bs xs i++[Jg bs d (i+xs.length)]
 | [],d,i=>rfl
 | x::r,d,i=>by
  rw [List.cons_append,Ef,Ef,Qr bs r d,List.cons_append,List.length_cons]
  congr 4
  omega
theorem ge (bs d i):0≤Jg bs d i∧Jg bs d i≤255:=by
 unfold Jg;split
 ·have h:=(bs[i]).toNat_lt;have hn:1≤Qi d:=by unfold Qi;split<;>omega
  obtain ⟨k,hk⟩:=Int.eq_ofNat_of_zero_le (show 0≤Qi d by omega);rw [hk];have h2:=Nat.mod_le (bs[i]).toNat k;have e:((bs[i]).toNat:Int) % (k:Int)=(((bs[i]).toNat % k:Nat):Int):=by simp
  rw [e];omega
 ·omega
set_option maxRecDepth 60000 in
theorem W0 {S M} (w) (V:St S M w) (vl l) (hl:RSl S vl l) (hm:l.length≤1048576):
  Ac prog 15 [vl] w (Rb S M (F2 l)):=by
 unfold Ac;obtain ⟨R,hR⟩:∃ R,F2 l=R:=⟨_,rfl⟩
 rw [hR];unfold F2 at hR;have HR:=Lib.hid hR;clear hR;go_enter func15,ntmps15;replace V:=V.nil 54 20;replace V:=V.nil 87 4;repeat' (first|(apply O ();go_step)|apply sY ()|fail)
 go_loopw [4,5,21] (fun u4 u5 u21 wr=>∃ (i n:Nat) (T:Ad) (a:List Pg×List Ev) (sp sg:Sv) (cp cg:List Value),i≤l.length∧i≤4∧n≤i∧S.Le T∧u4=Ar sp∧u5=Ar sg∧u21=.int .i64 (i:Int)∧Hid (Du (l.drop i) i a=R)∧Hid (n=a.1.length∧n=a.2.length)∧RL T cp a.1∧RL T cg a.2∧St T (.sl (Ar sp) 87 4 n cp::.sl (Ar sg) 54 20 n cg::M) wr) (fun _ _ v _=>l.length - (intOf v).toNat)
 case atStart=>exact ⟨0,0,S,([],[]),(none,0,0),(none,0,0),[],[],Nat.zero_le _,by omega,by omega,Ad.Le.refl S,rfl,rfl,rfl,HR,Lib.hid ⟨rfl,rfl⟩,RL.nil,RL.nil,V⟩
 case round =>
  clear V HR;obtain ⟨i,n,T,a,sp,sg,cp,cg,hi2,hi4,hni,hT,rfl,rfl,rfl,HR,HN,hP,hG,V⟩:=hrel;have hone4:=BE (k:=0) V rfl;have hone5:=BE (k:=1) V rfl;have hlT:RSl T vl l:=hl.mono hT
  have HEND:Hid (a=R→∀ T1,T.Le T1→∀ w',St T1 (.sl (Ar sp) 87 4 n cp::.sl (Ar sg) 54 20 n cg::M) w'→Rb S M R (.tuple #[Ar sp,Ar sg]) w'):=Lib.hid (by
   rintro rfl T1 hT1 w' V;obtain ⟨S2,hS2,hst2,hx⟩:=St.freeze (α:=Pg) V (hP.mono hT1) HN.out.1;obtain ⟨S3,hS3,hst3,hy⟩:=St.freeze (α:=Ev) hst2 (hG.mono (hT1.trans hS2)) HN.out.2;exact ⟨S3,sp,sg,hT.trans (hT1.trans (hS2.trans hS3)),rfl,hx.mono hS3,hy,hst3⟩)
  by_cases hlt:i < l.length
  ·by_cases h4:4≤i
   ·have hE:a=R:=by rw [← HR.out,Pi hlt (.inl h4)]
    repeat' ((apply ZZ 5);first|(apply O ();go_step)|fail)
    refine wp_region_lit ?_;repeat' (first|(apply O ();go_step)|(apply tL ();refine An V (Aw X Ak Y) ?_;rintro v ⟨cl,rfl,hcl⟩<;>apply nZ ())|(apply sJ ();intro v L)|(apply sZ ();clear V;intro bk w V)|fail)
    have hclx:=hcl;obtain ⟨so,rfl,hbs⟩:=Mr hcl;clear hcl;rw [show Z.agg Rn=true from rfl];apply nZ ();repeat' ((apply ZZ 6);first|(apply O ();go_step)|(apply sT ();clear V;intro w V)|fail)
    obtain ⟨T1,hT1,hst1,hpx⟩:=AC (α:=Rn) V hclx rfl;clear V;have V:=hst1;clear hst1 hclx hbs;generalize Value.pointer (some ⟨bk,0,none⟩)=pX at *;have hP1:=hP.mono hT1;have hG1:=hG.mono hT1;repeat' (first|apply sG ()|(with_reducible refine Sl.k_guard ?_;refine Sl.guard_cases rfl ?_ ?_<;>intro hg<;>first|exact gX|(simp only [hg,Bool.not_true,Bool.not_false])<;>(try replace hg:=gN hg)<;>apply nZ ())|(apply O ();go_step)|fail)
    go_ret2
    exact ⟨_,rfl,HEND.out hE T1 hT1 _ V⟩
   ·by_cases h400:(l[i]).1.b.length > 400
    ·have hE:a=R:=by rw [← HR.out,Pi hlt (.inr h400)]
     have h401:((l[i]).1.b.length:Int) > 400:=by omega
     repeat' ((apply ZZ 5);first|(apply O ();go_step)|fail)
     refine wp_region_lit ?_;repeat' (first|(apply O ();go_step)|(apply tL ();refine An V (Aw X Ak Y) ?_;rintro v ⟨cl,rfl,hcl⟩<;>apply nZ ())|(apply sJ ();intro v L)|(apply sZ ();clear V;intro bk w V)|fail)
     have hclx:=hcl;obtain ⟨so,rfl,hbs⟩:=Mr hcl;clear hcl;rw [show Z.agg Rn=true from rfl];apply nZ ();repeat' ((apply ZZ 6);first|(apply O ();go_step)|(apply sT ();clear V;intro w V)|fail)
     obtain ⟨T1,hT1,hst1,hpx⟩:=AC (α:=Rn) V hclx rfl;clear V;have V:=hst1;clear hst1 hclx hbs;generalize Value.pointer (some ⟨bk,0,none⟩)=pX at *;have hP1:=hP.mono hT1;have hG1:=hG.mono hT1;repeat' (first|apply sG ()|(with_reducible refine Sl.k_guard ?_;refine Sl.guard_cases rfl ?_ ?_<;>intro hg<;>first|exact gX|(simp only [hg,Bool.not_true,Bool.not_false])<;>(try replace hg:=gN hg)<;>apply nZ ())|(apply O ();go_step)|(apply tL ();refine An V (AO X Ak Y) ?_;rintro v ⟨rfl,hs⟩<;>apply nZ ())|(apply kc ();refine Ag V (by exact AW X Y) ?_<;>apply nZ ())|(apply sJ ();intro v L)|fail)
     go_ret2
     exact ⟨_,rfl,HEND.out hE T1 hT1 _ V⟩
    ·have hns:¬ (i≥4∨(l[i]).1.b.length > 400):=by omega
     have h401:¬ ((l[i]).1.b.length:Int) > 400:=by omega
     have NX:=Lib.hid (fun h=>(WZ (a:=a) hlt hns h).symm.trans HR.out);have SX:=Lib.hid (fun p ins o h=>(WY (a:=a) (p:=p) (ins:=ins) (o:=o) hlt hns h).symm.trans HR.out);clear HEND HR;have cP:=fun {S' M} w (V:St S' M w)=>fI w V (l[i]).1.b (by omega)
     have hpl:=TL (l[i]).1.b;obtain ⟨q,hq⟩:∃ q,Cq (l[i]).1.b=q:=⟨_,rfl⟩
     rw [hq] at hpl cP;obtain ⟨p,e⟩:=q;simp only at hpl cP;have hb:Fs p:=⟨by omega,by omega,fun x hx=>by have:=hpl.2.2 x hx;omega⟩
     have HQ:=Lib.hid hq;clear hq;repeat' ((apply ZZ 5);first|(apply O ();go_step)|fail)
     refine wp_region_lit ?_;repeat' (first|(apply O ();go_step)|(apply tL ();refine An V (Aw X Ak Y) ?_;rintro v ⟨cl,rfl,hcl⟩<;>apply nZ ())|(apply sJ ();intro v L)|(apply sZ ();clear V;intro bk w V)|fail)
     have hclx:=hcl;obtain ⟨so,rfl,hbs⟩:=Mr hcl;clear hcl;rw [show Z.agg Rn=true from rfl];apply nZ ();repeat' ((apply ZZ 6);first|(apply O ();go_step)|(apply sT ();clear V;intro w V)|fail)
     obtain ⟨T1,hT1,hst1,hpx⟩:=AC (α:=Rn) V hclx rfl;clear V;have V:=hst1;clear hst1 hclx hbs;generalize Value.pointer (some ⟨bk,0,none⟩)=pX at *;have hP1:=hP.mono hT1;have hG1:=hG.mono hT1;clear hns;repeat' ((apply ZZ 8);first|apply sG ()|(with_reducible refine Sl.k_guard ?_;refine Sl.guard_cases rfl ?_ ?_<;>intro hg<;>first|exact gX|(simp only [hg,Bool.not_true,Bool.not_false])<;>(try replace hg:=gN hg)<;>apply nZ ())|(apply O ();go_step)|(apply kc ();refine BG (cP _ V) Y rfl ?_;clear V;rintro v w ⟨T2,si,sn,hT2,rfl,⟨hi,hn,hr,hqq⟩,V⟩<;>apply nZ ()<;>(try replace V:=nH V))|(apply tL ();refine An V (AO X Ak Y) ?_;rintro v ⟨rfl,hs⟩<;>apply nZ ())|(apply kc ();refine Ag V (by exact AW X Y) ?_<;>apply nZ ())|(apply sJ ();intro v L)|(apply sT ();clear V;intro w V)|(apply sZ ();clear V;intro bk w V)|fail)
     rename Nat=>bq
     have L:Cm T2 si sn p:=⟨hi,hn,hr,hqq,hb.li,hb.ln,hb.lo⟩
     clear cP hi hn hr hqq;have cC:=fun {S' M} w (hS:T2.Le S') (V:St S' M w)=>gG w V si sn p (L.mono hS)
     have cE:=fun {S' M} w (hS:T2.Le S') (V:St S' M w)=>Qd w V si sn p (L.mono hS)
     have hle2:=Ad.Le.refl T2;have hP2:=hP1.mono hT2;have hG2:=hG1.mono hT2;by_cases he:e≠0
     ·have hz1:(e != 0)=true:=bne_iff_ne.2 he;have HB:=Lib.hid (NX.out (eV HQ.out he));clear NX SX HQ he cE;apply j9 ()
     ·obtain rfl:e=0:=by omega
      by_cases hk:BH p=0
      ·rw [LN hk] at cC;rw [hk] at cE;have RV:=Lib.hid (eS HQ.out hk);have hw:=LK (NI hk);have hml:=Kx hw;have hcode:Jn p=(AH p (p.2.1.length+1) p.2.2.1 0++i1 16 0 0,D9 p p.2.1.length,p.2.2.2.1,()):=by unfold Jn;rw [LN hk]
       clear HQ he;repeat' ((apply ZZ 9);first|(apply O ();go_step)|(apply kc ();refine BG (cC _ hle2 V) Y rfl ?_;clear V;rintro v w ⟨T3,sc,hT3,rfl,hc,V⟩<;>apply nZ ()<;>(try replace V:=nH V))|(apply tL ();refine Ag V (by exact BB X N.h Y FS) ?_<;>apply nZ ())|(apply sT ();clear V;intro w V)|(apply sZ ();clear V;intro bk w V)|fail)
       have hle3:=hT3;clear cC;repeat' ((apply ZZ 10);first|apply sG ()|(apply O ();go_step)|(apply kc ();refine BG (cE _ hle3 V) Y rfl ?_;clear V;rintro v w ⟨T4,hT4,rfl,V⟩<;>apply nZ ()<;>(try replace V:=nH V))|(apply tL ();refine Ag V (by exact BB X N.h Y FS) ?_<;>apply nZ ())|fail)
       rename Nat=>bc
       clear cE;have hi4:=L.i.mono (hT3.trans hT4);have hpx4:=hpx.mono (hT2.trans (hT3.trans hT4));have hli:=hb.li;generalize hxs:p.1=xs at *;replace V:=V.nil 3 1;repeat' (first|(apply O ();go_step)|apply sY ()|fail)
       go_loopw [12,59] (fun u12 u59 wr=>∃ (j:Nat) (ao:Option Addr) (ko:Nat) (ci:List Value),j≤xs.length∧u12=.slice ao j ko∧u59=.int .i64 (j:Int)∧RL T4 ci (Ef (l[i]).2.1 (xs.take j) 0)∧St T4 (.sl (.slice ao j ko) 3 1 j ci::.box bc [Ar sc,.int .i64 (D9 p p.2.1.length),.int .i64 p.2.2.2.1] 92::.box bq [.slice si.1 si.2.1 si.2.2,.slice sn.1 sn.2.1 sn.2.2,.int .i64 p.2.2.1,.int .i64 p.2.2.2.1] 87::.sl (Ar sp) 87 4 n cp::.sl (Ar sg) 54 20 n cg::M) wr) (fun _ v _=>xs.length - (intOf v).toNat)
       case atStart=>exact ⟨0,none,0,[],Nat.zero_le _,rfl,rfl,RL.nil,V⟩
       case round =>
        clear V;obtain ⟨j,ao,ko,ci,hj2,rfl,rfl,hC,V⟩:=hrel;have hone:=BE (k:=0) V rfl;by_cases hjl:j < xs.length
        ·have hsn:Hid (Ef (l[i]).2.1 (xs.take (j+1)) 0=Ef (l[i]).2.1 (xs.take j) 0++[Jg (l[i]).2.1 xs[j] j]):=Lib.hid (by rw [List.take_succ_eq_append_getElem hjl,Qr,List.length_take,Nat.min_eq_left (by omega),Nat.zero_add]);have hbd:=ge (l[i]).2.1 xs[j] j;obtain ⟨cd,hcd⟩:=KR hi4 hjl;clear hcode NX SX RV HN hP hG hP1 hG1 hP2 hG2 hml hw hk hpl hb L hle2 hle3 hT hT1 hT2 hT3 hT4 hlT hl hpx hc;obtain ⟨rfl,hd1,hd2,hd3⟩:=Zh hcd;repeat' ((apply ZZ 14);first|(apply O ();go_step)|apply sP ()|(apply sJ ();intro v L)|(apply sT ();clear V;intro w V)|(apply sZ ();clear V;intro bk w V)|fail)
         obtain ⟨z1,hz1⟩:∃ z,(xs[j].2.1 == 2)=z:=⟨_,rfl⟩
         obtain ⟨z2,hz2⟩:∃ z,(xs[j].2.1 == 4)=z:=⟨_,rfl⟩
         have kz:(z1=true)∨(z1=false∧z2=true)∨(z1=false∧z2=false):=by cases z1<;>cases z2<;>simp
         by_cases hjb:j < (l[i]).2.1.length
         ·have hby:=((l[i]).2.1[j]).toNat_lt;rcases kz with rfl|⟨rfl,rfl⟩|⟨rfl,rfl⟩
          ·have hvq:Hid (Jg (l[i]).2.1 xs[j] j=(((l[i]).2.1[j]).toNat:Int) % max 1 xs[j].2.2.2.1):=Lib.hid (by unfold Jg Qi;rw [dif_pos hjb,if_pos (.inl (beq_iff_eq.1 hz1))]);repeat' (first|(with_reducible refine Go.Sl.kV ?_;with_unfolding_all refine Ag V (EU (m:=(((l[i]).2.1[j]).toNat:Int)) rfl Y Y (Lt ⟨by omega,by omega⟩)) ?_<;>apply nZ ())|(apply tB ();refine Ag V (N5 rfl rfl ⟨by omega,by omega⟩) ?_<;>apply nZ ())|apply sK ()|apply sG ()|(apply O ();go_step)|(apply tL ();refine Ag V (by exact I8 X Ak Y) ?_<;>apply nZ ())|(apply tL ();refine An V (Aj X Ak Y) ?_;rintro v ⟨hvl,hv1⟩<;>apply nZ ())|(apply kc ();refine Ag V (by first|exact EH X Ak Y|exact Fy rfl rfl) ?_<;>apply nZ ())|apply sY ()|(apply sJ ();intro v L)|fail)
           apply kt ()
          ·have hvq:Hid (Jg (l[i]).2.1 xs[j] j=(((l[i]).2.1[j]).toNat:Int) % max 1 xs[j].2.2.2.1):=Lib.hid (by unfold Jg Qi;rw [dif_pos hjb,if_pos (.inr (beq_iff_eq.1 hz2))]);repeat' (first|(with_reducible refine Go.Sl.kV ?_;with_unfolding_all refine Ag V (EU (m:=(((l[i]).2.1[j]).toNat:Int)) rfl Y Y (Lt ⟨by omega,by omega⟩)) ?_<;>apply nZ ())|(apply tB ();refine Ag V (N5 rfl rfl ⟨by omega,by omega⟩) ?_<;>apply nZ ())|apply sK ()|apply sG ()|(apply O ();go_step)|(apply tL ();refine Ag V (by exact I8 X Ak Y) ?_<;>apply nZ ())|(apply tL ();refine An V (Aj X Ak Y) ?_;rintro v ⟨hvl,hv1⟩<;>apply nZ ())|(apply kc ();refine Ag V (by first|exact EH X Ak Y|exact Fy rfl rfl) ?_<;>apply nZ ())|apply sY ()|(apply sJ ();intro v L)|fail)
           apply kt ()
          ·have hvq:Hid (Jg (l[i]).2.1 xs[j] j=(((l[i]).2.1[j]).toNat:Int) % 2):=Lib.hid (by unfold Jg Qi;rw [dif_pos hjb,if_neg (by have:=beq_eq_false_iff_ne.1 hz1;have:=beq_eq_false_iff_ne.1 hz2;omega)]);repeat' (first|(with_reducible refine Go.Sl.kV ?_;with_unfolding_all refine Ag V (EU (m:=(((l[i]).2.1[j]).toNat:Int)) rfl Y Y (Lt ⟨by omega,by omega⟩)) ?_<;>apply nZ ())|(apply tB ();refine Ag V (N5 rfl rfl ⟨by omega,by omega⟩) ?_<;>apply nZ ())|apply sK ()|apply sG ()|(apply O ();go_step)|(apply tL ();refine Ag V (by exact I8 X Ak Y) ?_<;>apply nZ ())|(apply tL ();refine An V (Aj X Ak Y) ?_;rintro v ⟨hvl,hv1⟩<;>apply nZ ())|apply sY ()|(apply sJ ();intro v L)|fail)
           refine Ay (vs:=[(.int .i64 ((((l[i]).2.1[j]).toNat:Int) % 2))]) V Y Y rfl rfl (by simp [Value.cells]) rfl (by omega) (by omega) ?_;clear V;intro u w V;refine nY ?_;apply uC ();clear V;intro v' w V;refine nY ?_;(try replace V:=nH V);replace V:=V.drop;obtain ⟨ay,cy,hso⟩:=Go.Sl.sl_formk (k:=1) V rfl;subst hso;apply nZ ();repeat' (first|(apply O ();go_step)|fail)
           go_roundw
           case rel=>exact ⟨j+1,ay,cy,ci++[.int .i64 ((((l[i]).2.1[j]).toNat:Int) % 2)],by omega,rfl,by go_num,by rw [hsn.out,hvq.out];exact hC.append (Cw (Ah (by rw [← hvq.out];omega))),V.drop⟩
           case measure=>simp [intOf];omega
         ·rcases kz with rfl|⟨rfl,rfl⟩|⟨rfl,rfl⟩
          all_goals
           have hvq:Hid (Jg (l[i]).2.1 xs[j] j=0):=Lib.hid (by unfold Jg;rw [dif_neg hjb]);repeat' (first|apply sK ()|apply sG ()|(apply O ();go_step)|(apply tL ();refine An V (Aj X Ak Y) ?_;rintro v ⟨hvl,hv1⟩<;>apply nZ ())|(apply kc ();refine Ag V (by first|exact EH X Ak Y|exact Fy rfl rfl) ?_<;>apply nZ ())|apply sY ()|(apply sJ ();intro v L)|fail)
           refine Ay (vs:=[(.int .i64 (0))]) V Y Y rfl rfl (by simp [Value.cells]) rfl (by omega) (by omega) ?_;clear V;intro u w V;refine nY ?_;apply uC ();clear V;intro v' w V;refine nY ?_;(try replace V:=nH V);replace V:=V.drop;obtain ⟨ay,cy,hso⟩:=Go.Sl.sl_formk (k:=1) V rfl;subst hso;apply nZ ();repeat' (first|(apply O ();go_step)|fail)
           go_roundw
           case rel=>exact ⟨j+1,ay,cy,ci++[.int .i64 (0)],by omega,rfl,by go_num,by rw [hsn.out,hvq.out];exact hC.append (Cw (Ah (by rw [← hvq.out];omega))),V.drop⟩
           case measure=>simp [intOf];omega
        ·obtain rfl:j=xs.length:=by omega
         rw [List.take_length] at hC;have hIL:=Sq (l[i]).2.1 xs 0;obtain ⟨T5,hT5,hst5,hx5⟩:=St.freeze (α:=Int) V hC hIL.symm;clear V;have V:=hst5;clear hst5;have RV2:=RV.out;rw [hcode] at RV2;obtain ⟨r,hr⟩:∃ r,H3 (AH p (p.2.1.length+1) p.2.2.1 0++i1 16 0 0,D9 p p.2.1.length,p.2.2.2.1,()) (Ef (l[i]).2.1 xs 0) []=r:=⟨_,rfl⟩
         rw [hr] at RV2;have hc5:=hc.mono (hT4.trans hT5);have cR:=fun {M} w (V:St T5 M w)=>eW Yx w V (Ar sc) (AH p (p.2.1.length+1) p.2.2.1 0++i1 16 0 0,D9 p p.2.1.length,p.2.2.2.1,()) hc5 (by rw [List.length_append];show _+1≤_;omega) (.slice ao xs.length ko) _ hx5 (by rw [hIL];omega) (.slice none 0 0) [] Ij (Nat.zero_le _) hr
         have HN2:=HN.out;have hI4:Au r.1.2.2.1:=eD hc5 hr;clear hr hcode RV hw hk hle2 hle3 hc hC hone hml hpl;by_cases hr0:r.2=0
         ·rw [if_neg (by omega)] at RV2;have HB:=Lib.hid (SX.out _ _ _ RV2);clear NX SX RV2;repeat' ((apply ZZ 24);first|(apply O ();go_step)|(apply kc ();refine BG (cR _ V) Y rfl ?_;clear V;rintro v w ⟨T6,a1,n1,k1,a2,n2,k2,hT6,rfl,hq1,hq2,V⟩<;>apply nZ ()<;>(try replace V:=nH V))|(apply tL ();refine Ag V (by exact BB X N.h Y FS) ?_<;>apply nZ ())|(apply sT ();clear V;intro w V)|(apply sZ ();clear V;intro bk w V)|fail)
          replace V:St T6 (.box bk [.slice a1 n1 k1,.slice a2 n2 k2,.int .i64 r.1.2.2.1,.int .i64 r.1.2.2.2.1] 99::.box bc [Ar sc,.int .i64 (D9 p p.2.1.length),.int .i64 p.2.2.2.1] 92::.box bq [.slice si.1 si.2.1 si.2.2,.slice sn.1 sn.2.1 sn.2.2,.int .i64 p.2.2.1,.int .i64 p.2.2.2.1] 87::.sl (Ar sp) 87 4 n cp::.sl (Ar sg) 54 20 n cg::M) _:=V;have hp6:=L.mono (hT3.trans (hT4.trans (hT5.trans hT6)));have hP6:=hP2.mono (hT3.trans (hT4.trans (hT5.trans hT6)));have hG6:=hG2.mono (hT3.trans (hT4.trans (hT5.trans hT6)));have hx6:=hx5.mono hT6;have hTT:=hT.trans (hT1.trans (hT2.trans (hT3.trans (hT4.trans (hT5.trans hT6)))));clear L hP1 hP2 hG1 hG2 hx5 hT hT1 hT2 hT3 hT4 hT5 hT6 cR hc5;repeat' (first|(apply O ();go_step)|(apply tL ();refine Ag V (by exact BB X N.h Y FS) ?_<;>apply nZ ())|fail)
          refine Ay (vs:=[(Bo si sn p)]) V Y Y rfl rfl (by simp [Value.cells]) rfl (by omega) (by omega) ?_;clear V;intro u w V;refine nY ?_;apply uC ();clear V;intro v' w V;refine nY ?_;(try replace V:=nH V);replace V:=V.drop;obtain ⟨ay,cy,hso⟩:=Go.Sl.sl_formk (k:=3) V rfl;subst hso;apply nZ ();repeat' (first|(with_reducible refine Go.Sl.kV ?_;with_unfolding_all refine Ag V (EU (m:=(i:Int)) rfl Y Y (RF ⟨by omega,by omega⟩)) ?_<;>apply nZ ())|(apply O ();go_step)|apply sY ()|fail)
          refine Ay (vs:=[(.agg #[.int .u8 (i:Int),.int .u8 0,.int .u8 0,.int .u8 0,.int .u8 0,.int .u8 0,.int .u8 0,.int .u8 0,.int .u8 0,.int .u8 0,.int .u8 0,.int .u8 0,.int .u8 0,.int .u8 0,.int .u8 0,.int .u8 0,.slice ao xs.length ko,.slice a1 n1 k1,.slice a2 n2 k2,.int .i64 r.1.2.2.1])]) V Y Y rfl rfl (by simp [Value.cells]) rfl (by omega) (by omega) ?_;clear V;intro u w V;refine nY ?_;apply uC ();clear V;intro v' w V;refine nY ?_;(try replace V:=nH V);replace V:=V.drop;obtain ⟨az,cz,hsz⟩:=Go.Sl.sl_formk (k:=4) V rfl;subst hsz;apply nZ ();repeat' (first|(apply O ();go_step)|fail)
          have hev:Z.R T6 [.int .u8 (i:Int),.int .u8 0,.int .u8 0,.int .u8 0,.int .u8 0,.int .u8 0,.int .u8 0,.int .u8 0,.int .u8 0,.int .u8 0,.int .u8 0,.int .u8 0,.int .u8 0,.int .u8 0,.int .u8 0,.int .u8 0,.slice ao xs.length ko,.slice a1 n1 k1,.slice a2 n2 k2,.int .i64 r.1.2.2.1] (Ot i (Ef (l[i]).2.1 xs 0) r.1):=gw (by omega) hx6 hq1 hq2 hI4;go_roundw
          case rel=>exact ⟨i+1,n+1,T6,(a.1++[p],a.2++[Ot i (Ef (l[i]).2.1 xs 0) r.1]),(ay,n+1,cy),(az,n+1,cz),_,_,by omega,by omega,by omega,hTT,rfl,rfl,by go_num,HB,Lib.hid ⟨by rw [List.length_append,← HN2.1];rfl,by rw [List.length_append,← HN2.2];rfl⟩,hP6.append (RL.one_mk (Fe hp6)),hG6.append (RL.one_mk hev),V.sub⟩
          case measure=>simp [intOf];omega
         ·have hz3:(((r.2:Nat):Int) != 0)=true:=bne_iff_ne.2 (by omega);rw [if_pos hr0] at RV2;have HB:=Lib.hid (NX.out RV2);clear NX SX RV2 hr0;repeat' (first|apply sK ()|(apply O ();go_step)|(apply kc ();refine BG (cR _ V) Y rfl ?_;clear V;rintro v w ⟨T6,a1,n1,k1,a2,n2,k2,hT6,rfl,hq1,hq2,V⟩<;>apply nZ ()<;>(try replace V:=nH V))|(apply tL ();refine Ag V (by exact BB X N.h Y FS) ?_<;>apply nZ ())|(apply sT ();clear V;intro w V)|(apply sZ ();clear V;intro bk w V)|fail)
          go_roundw
          case rel=>exact ⟨i+1,n,T6,a,sp,sg,cp,cg,by omega,by omega,by omega,hT.trans (hT1.trans (hT2.trans (hT3.trans (hT4.trans (hT5.trans hT6))))),rfl,rfl,by go_num,HB,HN,hP2.mono (hT3.trans (hT4.trans (hT5.trans hT6))),hG2.mono (hT3.trans (hT4.trans (hT5.trans hT6))),V.sub⟩
          case measure=>simp [intOf];omega
      ·rw [QU hk] at cC;have HB:=Lib.hid (NX.out (eU HQ.out hk));generalize BH p=f at *;have hz2:(f != 0)=true:=bne_iff_ne.2 hk;clear NX SX HQ he cE hk;apply j9 ()
  ·have hE:a=R:=by
    have:=HR.out;rwa [List.drop_of_length_le (by omega),Du] at this
   repeat' (first|(apply O ();go_step)|fail)
   go_ret2
   exact ⟨_,rfl,HEND.out hE T (Ad.Le.refl T) _ V⟩
def GG (t:Int):Pn:=(0,0,t,Bk (FM A4) 0,())
def Ct (t:Int):Cz:=(Gn,[AE A4],[GG t],())
def KA:Cz:=(Gn,[AE A4],[],())
theorem jh:FE [A4] [] [(0,0)]=some [GG 2]:=by simp [FE,A4,GG]
theorem gJ:CX [AE A4] [] [GG 2]=0:=aa (log:=[A4]) (by decide) [(0,0)] [] _ jh
theorem nI:CX [AE A4] [] []=0:=rfl
theorem m9:FM A4=[BX 0 2,BX 1 0]:=rfl
theorem fb (a b):Cg [a,b]=F1 (DF a) (DF b):=rfl
theorem bV (a b):Bk [a,b] 0=[DF b]:=rfl
set_option maxRecDepth 1000000 in
theorem kM:Cj (AE A4).2.2.2.1 (AE A4).2.2.1.toNat 0 (BX 0 1) (Bk (FM A4) 0)=false:=by
 have e:F1 (DF (BX 0 1)) (DF (BX 1 0))≠F1 (DF (BX 0 2)) (DF (BX 1 0)):=by
  have h:(He 10 [Bx 0,Bx 1] fun a=>He 10 [Bx 1,Bx 0] fun b=>He 10 [Bx 0,Bx 2] fun c=>He 1 [a] fun a=>He 1 [b] fun b=>He 1 [c] fun c=>He 2 [a,b] fun x=>He 2 [c,b] fun y=>decide (x≠y))=true:=by decide +kernel
  simp only [Zy] at h;intro e;have e':=congrArg H7.l e;simp only [F1,DF,BX] at e';exact of_decide_eq_true h e'
 have r:(AE A4).2.2.2.1=Cg (FM A4):=rfl;have n3:(AE A4).2.2.1.toNat=2:=rfl;rw [r,n3,m9,fb,bV];generalize BX 0 1=x at *;generalize BX 1 0=y at *;generalize BX 0 2=z at *;have h:Jk (CO 2 0) x [DF y]=F1 (DF x) (DF y):=rfl;rw [Cj,h,decide_eq_false e];rfl
theorem gI:CX [AE A4] [] [GG 1]=16:=by
 have h0:([AE A4]:List Hd)[(0:Int).toNat]? = some (AE A4):=rfl;have h3:(AE A4).2.2.1=2:=rfl;rw [CX,if_neg (by simp [GG])];show (match ([AE A4]:List Hd)[(0:Int).toNat]? with|none=>1|some h=>_)=16;rw [h0];show (if (0:Int) < 0∨(AE A4).2.2.1≤0 then 1 else if Cj (AE A4).2.2.2.1 (AE A4).2.2.1.toNat (0:Int).toNat (BX 0 1) (Bk (FM A4) 0) then _ else 16)=16;rw [if_neg (by rw [h3];decide)];have:=kM;rw [show (0:Int).toNat=0 from rfl,this];rfl
theorem l8:(Ct 2).2.1.any DP=false:=rfl
theorem lq:LF [AE A4] [GG 2]=[[2,-1]]:=rfl
theorem lr:LF [AE A4] []=[[-1,-1]]:=rfl
theorem lz:DS (BM Cy.2.1 Cy.2.2.1 Cy.2.2.2.1) [2,-1]=some [2,0]:=by decide +kernel
theorem lA:DS (BM Cy.2.1 Cy.2.2.1 Cy.2.2.2.1) [-1,-1]=some [-1,-1]:=by decide +kernel
theorem nc:FV (Ct 2) [Cy]=([[2,0]],0):=by
 unfold FV;rw [if_neg (by rw [l8];simp [Ct])];show (if CX [AE A4] [] [GG 2]≠0 then _ else Wg (GI [Cy] [AE A4] (LF [AE A4] [GG 2]) []))=_;rw [if_neg (by rw [gJ];simp),lq,Oi (by decide) lz,if_neg (by decide),Qo];rfl
theorem ne:FV KA [Cy]=([[-1,-1]],0):=by
 unfold FV;rw [if_neg (by rw [show KA.2.1.any DP=false from rfl];simp [KA])];show (if CX [AE A4] [] []≠0 then _ else Wg (GI [Cy] [AE A4] (LF [AE A4] []) []))=_;rw [if_neg (by rw [nI];simp),lr,Oi (by decide) lA,if_neg (by decide),Qo];rfl
theorem m8:Ep (Ct 2) (Ct 1)=(JC,15):=by
 unfold Ep;rw [if_pos ⟨rfl,rfl⟩];rfl
theorem lj:PZ (Ct 2) [(0,0)]=Ct 2:=rfl
theorem ll:PZ (Ct 2) []=KA:=rfl
theorem il (r) (h:DL Gn [AE A4]=r):J4 (Ct 2) r=0:=by
 unfold J4;show (if CX [AE A4] [] [GG 2]≠0 then _ else if DL Gn [AE A4]=r then 0 else 16)=0;rw [if_neg (by rw [gJ];simp),if_pos h]
theorem ij (r) (h:DL Gn [AE A4]≠r):J4 (Ct 2) r=16:=by
 unfold J4;show (if CX [AE A4] [] [GG 2]≠0 then _ else if DL Gn [AE A4]=r then 0 else 16)=16;rw [if_neg (by rw [gJ];simp),if_neg h]
theorem ii (r):J4 (Ct 1) r=16:=by
 unfold J4;show (if CX [AE A4] [] [GG 1]≠0 then ((CX [AE A4] [] [GG 1]:Nat):Int) else _)=16;rw [if_pos (by rw [gI];simp),gI];rfl
end Go.Proofs.YtmmbidoldegemaaGreatDoor
namespace Go.Proofs.YtmmbidoldegemaaGreatDoor
open Go.RowKit Go.Sl Go.Srt
theorem DM {n} (h: -1000≤n∧n≤1000):Au n:=by unfold Au;omega
theorem Wu:∀ h∈[AE A4],FN h∧h.2.2.1≤1000:=fun h hh=>by
 obtain rfl:=List.mem_singleton.1 hh;exact ⟨⟨rfl,Cx _ _,DM (by decide),CA _,CA _,DM (by decide)⟩,by decide⟩
theorem fB (t) (ht: -1000≤t∧t≤1000):∀ p∈[GG t],Au p.1∧Au p.2.1∧Au p.2.2.1∧p.2.2.2.1.length≤1048576:=fun p L=>by
 obtain rfl:=List.mem_singleton.1 L;exact ⟨DM (show -1000≤(0:Int)∧(0:Int)≤1000 by decide),DM (show -1000≤(0:Int)∧(0:Int)≤1000 by decide),DM ht,Nat.le_trans (If _ _) (by decide)⟩
theorem ND (t) (ht: -1000≤t∧t≤1000):Ox (Ct t):=⟨Wu,fB t ht,by simp [Ct],by simp [Ct]⟩
theorem gx:Ox KA:=⟨Wu,fun p L=>by simp [KA] at L,by simp [KA],by simp [KA]⟩
theorem WC:∀ e∈[A4],JD e:=fun e he=>by
 obtain rfl:=List.mem_singleton.1 he;exact ⟨by decide,by decide,by decide⟩
theorem VX:∀ p∈[Cy],Fs p:=fun p L=>by
 obtain rfl:=List.mem_singleton.1 L;exact ⟨by decide,by decide,by decide⟩
end Go.Proofs.YtmmbidoldegemaaGreatDoor
namespace Go.Proofs.YtmmbidoldegemaaGreatDoor
open Go.RowKit Go.Sl Go.Srt Go.Proofs.Tryz
theorem ef {S M} (w) (V:St S M w) (vl) (hl:RSl S vl ([(⟨Lw⟩,[],())]:List Rn)):
  Ac prog 15 [vl] w fun v w'=>∃ S' sp sl,S.Le S'∧v=.tuple #[Ar sp,Ar sl]∧RSl S' (Ar sp) [Cy]∧RSl S' (Ar sl) [A4]∧St S' M w' :=
 (W0 w V vl _ hl (by decide)).mono fun v w' ⟨S',sp,sl,h,hv,L,hg,k⟩=>by
  rw [Vw] at L hg;exact ⟨S',sp,sl,h,hv,L,hg,k⟩
theorem df {S M} (w) (V:St S M w) (hG:Bu S) (vl) (hl:RSl S vl [A4]) (vr) (hr:RSl S vr ([(0,0)]:List (Int×Int))):
  Ac prog 16 [Cu Gn,vl,vr] w fun v w'=>∃ S' cs,S.Le S'∧v=.tuple #[.agg cs.toArray,.int .i64 0]∧Z.R S' cs (Ct 2)∧St S' M w' :=
 (V9 w V hG Gn rfl vl _ hl (by decide) WC vr _ hr (by decide)).mono fun v w' ⟨S',hS,hk,h⟩=>by
  rw [jh] at h;obtain ⟨cs,h1,h2⟩:=h;exact ⟨S',cs,hS,h1,h2,hk⟩
theorem dJ {S M} (w) (V:St S M w) (hG:Bu S) (r) (hr:DL Gn [AE A4]=r) (vl) (hl:RSl S vl [A4]):
  Ac prog 20 [Cu Gn,vl] w fun v w'=>v=L4 r∧St S M w':=by
 rw [← hr,show [AE A4]=[A4].map AE from rfl,Yw];exact gu w V hG Gn rfl vl _ hl (by decide) WC
theorem Za {S M} (w) (V:St S M w) (hG:Bu S) (cs) (hR:Z.R S cs (Ct 2)) (vp) (L:RSl S vp [Cy]):
  Ac prog 18 [.agg cs.toArray,vp] w fun v w'=>∃ S' so,S.Le S'∧v=.tuple #[Ar so,.int .i64 0]∧RSl S' (Ar so) ([[2,0]]:List (List Int))∧St S' M w' :=
 (Sm w V hG cs _ hR (ND 2 (by decide)) (by simp [Ct]) (by simp [Ct]) vp _ L VX).mono fun v w' ⟨S',so,h,hv,hl,k⟩=>by
  rw [nc] at hv hl;exact ⟨S',so,h,hv,hl,k⟩
theorem Zb {S M} (w) (V:St S M w) (hG:Bu S) (cs) (hR:Z.R S cs KA) (vp) (L:RSl S vp [Cy]):
  Ac prog 18 [.agg cs.toArray,vp] w fun v w'=>∃ S' so,S.Le S'∧v=.tuple #[Ar so,.int .i64 0]∧RSl S' (Ar so) ([[-1,-1]]:List (List Int))∧St S' M w' :=
 (Sm w V hG cs _ hR gx (by simp [KA]) (by simp [KA]) vp _ L VX).mono fun v w' ⟨S',so,h,hv,hl,k⟩=>by
  rw [ne] at hv hl;exact ⟨S',so,h,hv,hl,k⟩
theorem fk {S M} (w) (V:St S M w) (cs) (hR:Z.R S cs (Ct 2)) (vk) (hk:RSl S vk ([]:List (Int×Int))):
  Ac prog 13 [.agg cs.toArray,vk] w (NU S M KA):=by
 rw [← ll];exact PY w V cs _ hR vk _ hk (by simp [Ct]) (by decide)
theorem fj {S M} (w) (V:St S M w) (cs) (hR:Z.R S cs (Ct 2)) (vk) (hk:RSl S vk ([(0,0)]:List (Int×Int))):
  Ac prog 13 [.agg cs.toArray,vk] w (NU S M (Ct 2)):=by
 rw [show NU S M (Ct 2)=NU S M (PZ (Ct 2) [(0,0)]) by rw [lj]];exact PY w V cs _ hR vk _ hk (by simp [Ct]) (by decide)
theorem Y2 {S M} (w) (V:St S M w) (c1) (h1:Z.R S c1 (Ct 2)) (c2) (h2:Z.R S c2 (Ct 1)):
  Ac prog 10 [.agg c1.toArray,.agg c2.toArray] w fun v w'=>∃ S' cs,S.Le S'∧v=.tuple #[.agg cs.toArray,.int .i64 15]∧Z.R S' cs JC∧St S' M w' :=
 (IS w V c1 _ h1 c2 _ h2 (by simp [Ct]) (by simp [Ct]) (by simp [Ct])).mono fun v w' ⟨S',cs,h,hv,hR,k⟩=>by
  rw [m8] at hv hR;exact ⟨S',cs,h,hv,hR,k⟩
theorem aK {S M} (w) (V:St S M w) (hG:Bu S) (r) (hr:DL Gn [AE A4]=r) (ok:EP r) (cs) (hR:Z.R S cs (Ct 2)):
  Ac prog 19 [.agg cs.toArray,L4 r] w fun v w'=>v=.int .i64 0∧St S M w':=by
 have:=Ll w V hG cs _ hR (ND 2 (by decide)) r ok;rwa [il r hr] at this
theorem aJ {S M} (w) (V:St S M w) (hG:Bu S) (r) (hr:DL Gn [AE A4]≠r) (ok:EP r) (cs) (hR:Z.R S cs (Ct 2)):
  Ac prog 19 [.agg cs.toArray,L4 r] w fun v w'=>v=.int .i64 16∧St S M w':=by
 have:=Ll w V hG cs _ hR (ND 2 (by decide)) r ok;rwa [ij r hr] at this
theorem aI {S M} (w) (V:St S M w) (hG:Bu S) (r) (ok:EP r) (cs) (hR:Z.R S cs (Ct 1)):
  Ac prog 19 [.agg cs.toArray,L4 r] w fun v w'=>v=.int .i64 16∧St S M w':=by
 have:=Ll w V hG cs _ hR (ND 1 (by decide)) r ok;rwa [ii r] at this
theorem RX {S M} (w) (V:St S M w) (va vb a b) (ha:RSl S va ([[a,b]]:List (List Int))) (hb:RSl S vb ([[a,b]]:List (List Int))):
  Ac prog 21 [va,vb] w fun v w'=>v=.bool true∧St S M w' :=
 Rj w V va vb _ ha hb (by simp) fun p L=>by rw [List.mem_singleton.1 L];simp
theorem VH {S}:RL S [.int .i64 0,.int .i64 0] ([(0,0)]:List (Int×Int)):=RL.one_mk ⟨by decide,⟨rfl,DM (by decide)⟩,⟨rfl,DM (by decide)⟩⟩
theorem gz {S cl} {hs:List Hd} {ps} (h:Z.R S cl ((Gn,hs,ps,()):Cz)):∃ ua un uc pa pn pc,cl=KB 9 0 0 0 0 0 0 0 0 0 0 0 0 0 0 0 (.slice ua un uc) (.slice pa pn pc)∧RSl S (.slice ua un uc) hs∧RSl S (.slice pa pn pc) ps:=WD h
theorem dM {S u p} {hs:List Hd} {ps} (h:RSl S u hs) (k:RSl S p ps):Z.R S (KB 9 0 0 0 0 0 0 0 0 0 0 0 0 0 0 0 u p) ((Gn,hs,ps,()):Cz) :=
 AG (BL (d:=Gn) rfl) (AG (cs:=[_]) ⟨_,rfl,h⟩ (AG (cs:=[_]) ⟨_,rfl,k⟩ CM))
theorem bI {S c} (h:RL S c [GG 2]):RL S (c.take 2++[.int .i64 1]++c.drop 3) [GG 1]:=by
 have hl:c.length=4:=h.1
 match c,hl with
 | [x0,x1,x2,x3],_ =>
  have h0:Z.R S [x0,x1,x2,x3] (GG 2):=h.2 0 _ rfl;obtain ⟨_,a0,_,a1,_,a2,_,a3,a4⟩:=h0;exact RL.one_mk (S:=S) (cs:=[x0,x1,.int .i64 1,x3]) (AG (cs:=[x0]) a0 (AG (cs:=[x1]) a1 (AG (show Z.R S [.int .i64 1] (1:Int) from ⟨rfl,DM (by decide)⟩) (AG (cs:=[x3]) a3 CM))))
end Go.Proofs.YtmmbidoldegemaaGreatDoor
