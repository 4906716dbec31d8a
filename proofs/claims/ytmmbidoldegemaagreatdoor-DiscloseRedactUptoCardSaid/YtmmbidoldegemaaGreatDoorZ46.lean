/- Proved: the law DiscloseRedact of package disclose returns true at every argument (redacting evidence about a boot keeps it valid, makes no outcome known that was not known before, and changes none). Conditions: none beyond those that the given statement itself has. -/
import Derived.Test.YtmmbidoldegemaaGreatDoorCards
import Derived.Test.YtmmbidoldegemaaGreatDoorTie
import Derived.Deep.DeepHandedRow
import Derived.Lib.LaidTab
import Derived.Stop.LaidErr
import Derived.Test.YtmmbidoldegemaaGreatDoorZ45
set_option linter.all false
set_option maxRecDepth 8000
set_option maxHeartbeats 8000000
namespace Go.Proofs.YtmmbidoldegemaaGreatDoor
open Go.RowKit Go.Sl Go.Srt Go.Proofs.Tryz
theorem PT {α:Type} [Z α] {S}:RSl S (.slice none 0 0) ([]:List α):=.inl ⟨none,0,rfl,rfl,by unfold maxLen;omega⟩
theorem ff {S}:RL S [.string ⟨#[105,110,112,117,116,32,115,32,115,116,114,97,112,32,48,59,32,105,102,32,115,32,61,61,32,49,32,123,32,105,102,32,115,32,61,61,32,48,32,123,32,104,97,108,116,32,51,59,32,125,32,125]⟩,.slice none 0 0] ([(⟨Lw⟩,[],())]:List Rn) :=
 RL.one_mk (AG (cs:=[_]) ⟨rfl,by decide⟩ (AG (cs:=[_]) ⟨_,rfl,PT⟩ CM))
theorem VG {S a b} (ha:Au a) (hb:Au b):RL S [.int .i64 a,.int .i64 b] [a,b]:=(RL.one_mk (show Z.R S [.int .i64 a] a from ⟨rfl,ha⟩)).append (RL.one_mk (show Z.R S [.int .i64 b] b from ⟨rfl,hb⟩))
theorem kK (a:UInt8):bits .xor .u8 (a.toNat:Int) 1=((a ^^^ 1).toNat:Int):=W6 a 1
theorem ez (a:UInt8):a ^^^ 1≠a:=by
 intro h;have:=congrArg (fun x=>a ^^^ x) h;simp [← UInt8.xor_assoc] at this
set_option maxRecDepth 60000 in
theorem gD {S M} (w) (V:St S M w) (hG:Bu S):Ac prog 9 [] w fun v w'=>v=.bool true∧St S M w':=by
 unfold Ac;obtain ⟨r,hr⟩:∃ r,DL Gn [AE A4]=r:=⟨_,rfl⟩
 have okr:EP r:=hr▸LD _ _;obtain ⟨r1,r2,⟨⟩⟩:=r;obtain ⟨a0,a1,a2,a3,a4,a5,a6,a7,a8,a9,a10,a11,a12,a13,a14,a15,rfl⟩:=QT okr.a;obtain ⟨d0,d1,d2,d3,d4,d5,d6,d7,d8,d9,d10,d11,d12,d13,d14,d15,rfl⟩:=QT okr.b;go_enter func9,ntmps9;repeat' ((apply ZZ 1);first|(apply O ();go_step)|fail)
 refine wp_region_lit ?_;refine Ag V (Dc (cs:=[.string ⟨#[105,110,112,117,116,32,115,32,115,116,114,97,112,32,48,59,32,105,102,32,115,32,61,61,32,49,32,123,32,105,102,32,115,32,61,61,32,48,32,123,32,104,97,108,116,32,51,59,32,125,32,125]⟩,.slice none 0 0]) Y Y kr) ?_;apply nZ ();refine Ay (vs:=[_]) (cs:=[_,_]) V Y Y rfl rfl (by simp [Value.cells]) rfl (by omega) (by omega) ?_;clear V;intro x0 w V;apply nZ ();obtain ⟨S1,hS1,hst1,hx0⟩:=St.freeze (α:=Rn) V ff rfl;clear V;have V:=hst1;clear hst1;have ls1:([A4]:List Ev).length=1:=rfl;have tl1:((([A4]:List Ev).length:Int) != 1)=false:=rfl;have tl2:(((A4.2.2.1).length:Int) != 2)=false:=rfl;repeat' ((apply ZZ 5);first|apply sK ()|apply sG ()|(apply O ();go_step)|(apply kc ();refine sc (ef _ V _ hx0) ?_;clear V;rintro v w ⟨S2,sp,sl,hS2,rfl,hpp,hl,V⟩)|(apply tL ();refine An V (Aj X Ak Y) ?_;rintro v ⟨hvl,hv1⟩<;>apply nZ ())|apply sY ()|(apply sJ ();intro v L)|(apply sT ();clear V;intro w V)|(apply sZ ();clear V;intro bk w V)|fail)
 rename Nat=>bm
 clear tl1 tl2 hx0 hvl;refine wp_region_lit ?_;repeat' (first|(apply tU ();refine Ag V (KX (cs:=[.int .i64 0,.int .i64 0]) Y Y Y rfl) ?_<;>apply nZ ())|(apply O ();go_step)|(apply tL ();refine Ag V (by exact BB X N.h Y FS) ?_<;>apply nZ ())|fail)
 refine Ay (vs:=[.agg #[.int .i64 0,.int .i64 0]]) (cs:=[.int .i64 0,.int .i64 0]) V Y Y rfl rfl (by simp [Value.cells]) rfl (by omega) (by omega) ?_;clear V;intro xk w V;apply nZ ();obtain ⟨S3,hS3,hst1,hxk⟩:=St.freeze (α:=Int×Int) V VH rfl;clear V;have V:=hst1;clear hst1;have hG3:=hG.mono ((hS1.trans hS2).trans hS3);have hl3:=hl.mono hS3;repeat' (first|(apply O ();go_step)|(apply kc ();refine sc (df _ V hG3 _ hl3 _ hxk) ?_;clear V;rintro v w ⟨S4,ce,hS4,rfl,hRe,V⟩)|(apply sZ ();clear V;intro bk w V)|fail)
 refine Cf V rfl N.h Y rfl hRe rfl ?_;clear V;intro w V;apply nZ ();(try replace V:=nH V);clear hv1 hxk hG3;rename Nat=>bE
 repeat' ((apply ZZ 6);first|(apply O ();go_step)|fail)
 have hst0:St S4 (.box bE ce 27::.box bm (u8s Gn.l) 23::M) _:=V;clear V;obtain ⟨S5,hS5,V,hpe⟩:=AC (α:=Cz) hst0 hRe (Z.len hRe);clear hst0;generalize Value.pointer (some ⟨bE,0,none⟩)=pE at *;have hG5:=hG.mono ((((hS1.trans hS2).trans hS3).trans hS4).trans hS5);have hl5:=hl3.mono (hS4.trans hS5);have hp5:=hpp.mono ((hS3.trans hS4).trans hS5);have hle5:=(((hS1.trans hS2).trans hS3).trans hS4).trans hS5;clear hS1 hS2 hS3 hS4 hS5 hRe hl3 hl hpp L hG;have cFo:=fun {M} w (V:St S5 M w)=>(show Ac prog 20 [Cu Gn,Ar sl] w (fun v w'=>v=.agg #[.int .u8 (a0.toNat:Int),.int .u8 (a1.toNat:Int),.int .u8 (a2.toNat:Int),.int .u8 (a3.toNat:Int),.int .u8 (a4.toNat:Int),.int .u8 (a5.toNat:Int),.int .u8 (a6.toNat:Int),.int .u8 (a7.toNat:Int),.int .u8 (a8.toNat:Int),.int .u8 (a9.toNat:Int),.int .u8 (a10.toNat:Int),.int .u8 (a11.toNat:Int),.int .u8 (a12.toNat:Int),.int .u8 (a13.toNat:Int),.int .u8 (a14.toNat:Int),.int .u8 (a15.toNat:Int),.int .u8 (d0.toNat:Int),.int .u8 (d1.toNat:Int),.int .u8 (d2.toNat:Int),.int .u8 (d3.toNat:Int),.int .u8 (d4.toNat:Int),.int .u8 (d5.toNat:Int),.int .u8 (d6.toNat:Int),.int .u8 (d7.toNat:Int),.int .u8 (d8.toNat:Int),.int .u8 (d9.toNat:Int),.int .u8 (d10.toNat:Int),.int .u8 (d11.toNat:Int),.int .u8 (d12.toNat:Int),.int .u8 (d13.toNat:Int),.int .u8 (d14.toNat:Int),.int .u8 (d15.toNat:Int)]∧St S5 M w') from dJ w V hG5 _ hr _ hl5)
 repeat' ((apply ZZ 7);first|(apply O ();go_step)|(apply kc ();refine sc (cFo _ V) ?_;clear V;rintro v w ⟨rfl,V⟩)|(apply tL ();refine Ag V (by exact BB X N.h Y FS) ?_<;>apply nZ ())|(apply sT ();clear V;intro w V)|(apply sZ ();clear V;intro bk w V)|fail)
 rename Nat=>bR
 repeat' ((apply ZZ 8);first|(apply O ();go_step)|(apply tL ();refine An V (Aw (y:=Ct 2) X hpe Y) ?_;rintro v45 ⟨c7,rfl,hc7⟩<;>apply nZ ())|(apply kc ();refine sc (Za _ V hG5 _ hc7 _ hp5) ?_;clear V;rintro v w ⟨S6,so,hS6,rfl,hk6,V⟩)|fail)
 have hpe6:=Pt.mono hS6 hpe;have hG6:=hG5.mono hS6;have hp6:=hp5.mono hS6;clear hc7 hpe;repeat' ((apply ZZ 9);first|(apply O ();go_step)|(apply tL ();refine An V (Aw (y:=Ct 2) X hpe6 Y) ?_;rintro v51 ⟨c8,rfl,hc8⟩<;>apply nZ ())|(apply kc ();refine sc (fk _ V _ hc8 _ PT) ?_;clear V;rintro v w ⟨S7,cn,hS7,rfl,hRn,V⟩)|(apply kc ();refine sc (Zb _ V (hG6.mono hS7) _ hRn _ (hp6.mono hS7)) ?_;clear V;rintro v w ⟨S8,sn,hS8,rfl,hk8,V⟩)|fail)
 have hpe8:=Pt.mono (hS7.trans hS8) hpe6;have hG8:=hG6.mono (hS7.trans hS8);have hk7:=hk6.mono (hS7.trans hS8);have hle8:=(hle5.trans hS6).trans (hS7.trans hS8);clear hS6 hS7 hS8 hc8 hRn hk6 hpe6 hp5 hp6 L hl5 hG5 hG6 hle5;repeat' ((apply ZZ 11);first|(apply tI ();refine Ag V (A6 rfl rfl Y Y Af Af) ?_<;>apply nZ ())|(apply O ();go_step)|(apply tL ();refine Ag V (by first|exact BB X N.h Y FS|exact AT rfl _ N.h Y rfl rfl) ?_<;>apply nZ ())|apply sY ()|(apply sT ();clear V;intro w V)|(apply sZ ();clear V;intro bk w V)|fail)
 rw [kK] at V
 have hst0:St S8 (.box bk [.int .u8 ((a0 ^^^ 1).toNat:Int),.int .u8 (a1.toNat:Int),.int .u8 (a2.toNat:Int),.int .u8 (a3.toNat:Int),.int .u8 (a4.toNat:Int),.int .u8 (a5.toNat:Int),.int .u8 (a6.toNat:Int),.int .u8 (a7.toNat:Int),.int .u8 (a8.toNat:Int),.int .u8 (a9.toNat:Int),.int .u8 (a10.toNat:Int),.int .u8 (a11.toNat:Int),.int .u8 (a12.toNat:Int),.int .u8 (a13.toNat:Int),.int .u8 (a14.toNat:Int),.int .u8 (a15.toNat:Int),.int .u8 (d0.toNat:Int),.int .u8 (d1.toNat:Int),.int .u8 (d2.toNat:Int),.int .u8 (d3.toNat:Int),.int .u8 (d4.toNat:Int),.int .u8 (d5.toNat:Int),.int .u8 (d6.toNat:Int),.int .u8 (d7.toNat:Int),.int .u8 (d8.toNat:Int),.int .u8 (d9.toNat:Int),.int .u8 (d10.toNat:Int),.int .u8 (d11.toNat:Int),.int .u8 (d12.toNat:Int),.int .u8 (d13.toNat:Int),.int .u8 (d14.toNat:Int),.int .u8 (d15.toNat:Int)] 50::.box bR [.int .u8 (a0.toNat:Int),.int .u8 (a1.toNat:Int),.int .u8 (a2.toNat:Int),.int .u8 (a3.toNat:Int),.int .u8 (a4.toNat:Int),.int .u8 (a5.toNat:Int),.int .u8 (a6.toNat:Int),.int .u8 (a7.toNat:Int),.int .u8 (a8.toNat:Int),.int .u8 (a9.toNat:Int),.int .u8 (a10.toNat:Int),.int .u8 (a11.toNat:Int),.int .u8 (a12.toNat:Int),.int .u8 (a13.toNat:Int),.int .u8 (a14.toNat:Int),.int .u8 (a15.toNat:Int),.int .u8 (d0.toNat:Int),.int .u8 (d1.toNat:Int),.int .u8 (d2.toNat:Int),.int .u8 (d3.toNat:Int),.int .u8 (d4.toNat:Int),.int .u8 (d5.toNat:Int),.int .u8 (d6.toNat:Int),.int .u8 (d7.toNat:Int),.int .u8 (d8.toNat:Int),.int .u8 (d9.toNat:Int),.int .u8 (d10.toNat:Int),.int .u8 (d11.toNat:Int),.int .u8 (d12.toNat:Int),.int .u8 (d13.toNat:Int),.int .u8 (d14.toNat:Int),.int .u8 (d15.toNat:Int)] 50::.box bm (u8s Gn.l) 23::M) _:=V
 clear V;have V:=hst0;clear hst0;have hne:=ez a0;generalize a0 ^^^ 1=b0 at *;have tl3:(((Ct 2).2.2.1.length:Int) != 1)=false:=rfl;repeat' ((apply ZZ 13);first|apply sK ()|apply sG ()|(apply O ();go_step)|(apply tL ();refine An V (Aj (y:=(Ct 2).2.2.1) X Ak Y) ?_;rintro v76 ⟨hv76,hv76b⟩<;>apply nZ ())|apply sY ()|(apply sJ ();intro v L)|fail)
 clear hv76 hv76b tl3;refine wp_region_lit ?_;repeat' (first|(apply tU ();refine Ag V (KX (cs:=[.int .i64 0,.int .i64 0]) Y Y Y rfl) ?_<;>apply nZ ())|(apply tL ();refine An V (Aw (y:=Ct 2) X hpe8 Y) ?_;rintro v80 ⟨c13,rfl,hc13⟩<;>apply nZ ())|fail)
 refine Ay (vs:=[.agg #[.int .i64 0,.int .i64 0]]) (cs:=[.int .i64 0,.int .i64 0]) V Y Y rfl rfl (by simp [Value.cells]) rfl (by omega) (by omega) ?_;clear V;intro xk w V;apply nZ ();obtain ⟨S9,hS9,hst1,hxk⟩:=St.freeze (α:=Int×Int) V VH rfl;clear V;have V:=hst1;clear hst1;repeat' (first|(apply kc ();refine sc (fj _ V _ (Z.mono hS9 hc13) _ hxk) ?_;clear V;rintro v w ⟨S10,cb,hS10,rfl,hRb,V⟩)|(apply sZ ();clear V;intro bk w V)|fail)
 rename Nat=>bB
 obtain ⟨ua,un,uc,pa,pn,pc,rfl,huh,hup⟩:=gz hRb;repeat' ((apply ZZ 14);first|(apply O ();go_step)|(apply sT ();clear V;intro w V)|fail)
 have tl4:((([GG 2]:List Pn).length:Int) != 1)=false:=rfl;repeat' ((apply ZZ 16);first|apply sK ()|(apply O ();go_step)|apply sY ()|fail)
 refine wp_region_lit ?_;refine Ay (vs:=[]) (cs:=[]) V Y Y rfl rfl (by simp) rfl (by omega) (by omega) ?_;clear V;intro x8 w V;apply nZ ();repeat' (first|apply sY ()|fail)
 refine Bj V X X SlIn.h hup Y Y Y (by decide) (by decide) (by decide) ?_;clear V;intro x9 w c9 hc9 V;apply nZ ();(try replace V:=nH V);simp only [List.length_cons,List.length_nil,Nat.zero_add,Nat.reduceAdd,List.nil_append] at V;obtain ⟨xa,xn,xc,rfl⟩:=sl_formk (k:=0) V rfl;repeat' ((apply ZZ 17);first|(apply O ();go_step)|apply sY ()|(apply sT ();clear V;intro w V)|fail)
 have hc9l:c9.length=4:=hc9.1;refine wp_region_lit ?_;repeat' (first|(apply tF ();refine An V (P1 X Ak Y) ?_;rintro v L;(try simp only [Int.toNat_natCast,Int.toNat_natCast_add_one,Int.reduceToNat] at L)<;>apply nZ ())|(apply tI ();(refine An V (Ao V X SlIn.h rfl Y Y Af Af) ?_);rintro v L;(try simp only [Int.toNat_natCast,Int.toNat_natCast_add_one,Int.reduceToNat] at L)<;>apply nZ ())|apply sY ()|fail)
 have hp2:=L;rw [Nat.zero_mul,Nat.zero_add] at hp2;refine BV (u:=.int .i64 1) (cs:=[.int .i64 1]) V X hp2 SlIn.h Y X rfl rfl rfl (show 2+1≤c9.length by omega) ?_;clear V;intro w V;apply nZ ();(try replace V:=nH V);have hq9:=bI hc9;obtain ⟨S11,hS11,hst1,hx9⟩:=St.freeze (α:=Pn) V hq9 rfl;clear V;have V:=hst1;clear hst1;have hRx:Z.R S11 (KB 9 0 0 0 0 0 0 0 0 0 0 0 0 0 0 0 (.slice ua un uc) (.slice xa xn xc)) (Ct 1):=dM (huh.mono hS11) hx9;have hst0:St S11 (.box bB (KB 9 0 0 0 0 0 0 0 0 0 0 0 0 0 0 0 (.slice ua un uc) (.slice xa xn xc)) 27::_) _:=V;clear V;obtain ⟨S12,hS12,V,hpb⟩:=AC (α:=Cz) hst0 hRx rfl;clear hst0;generalize Value.pointer (some ⟨bB,0,none⟩)=pB at *;have hpe12:=Pt.mono (((hS9.trans hS10).trans hS11).trans hS12) hpe8;have hle12:=hle8.trans (((hS9.trans hS10).trans hS11).trans hS12);have hG12:=hG8.mono (((hS9.trans hS10).trans hS11).trans hS12);have hkq:=hk7.mono (((hS9.trans hS10).trans hS11).trans hS12);have hkn:=hk8.mono (((hS9.trans hS10).trans hS11).trans hS12);clear hS9 hS10 hS11 hS12 hpe8 hle8 hG8 hk7 hk8 hRx hx9 hq9 hp2 L hc9 hc9l tl4 hup huh hRb hxk hc13
 repeat' ((apply ZZ 19);first|(apply O ();go_step)|(apply tL ();first|(refine An V (Aw (y:=Ct 2) X hpe12 Y) ?_;rintro v98 ⟨c98,rfl,hc98⟩)|(refine An V (Aw (y:=Ct 1) X hpb Y) ?_;rintro v99 ⟨c99,rfl,hc99⟩)<;>apply nZ ())|(apply kc ();refine sc (Y2 _ V _ hc98 _ hc99) ?_;clear V;rintro v w ⟨S13,cm,hS13,rfl,hRm,V⟩)|(apply sZ ();clear V;intro bk w V)|fail)
 refine Cf V rfl N.h Y rfl hRm rfl ?_;clear V;intro w V;apply nZ ();(try replace V:=nH V);have hpb:=Pt.mono hS13 hpb;have hpe:=Pt.mono hS13 hpe12;have hG:=hG12.mono hS13;have hle:=hle12.trans hS13;have hkq:=hkq.mono hS13;have hkn:=hkn.mono hS13;clear hpe12 hG12 hle12 hS13 hc98 hc99 L hRm;have cV1:=fun {M} w (V:St S13 M w) cs (hR:Z.R S13 cs (Ct 2))=>(show Ac prog 19 [.agg cs.toArray,.agg #[.int .u8 (a0.toNat:Int),.int .u8 (a1.toNat:Int),.int .u8 (a2.toNat:Int),.int .u8 (a3.toNat:Int),.int .u8 (a4.toNat:Int),.int .u8 (a5.toNat:Int),.int .u8 (a6.toNat:Int),.int .u8 (a7.toNat:Int),.int .u8 (a8.toNat:Int),.int .u8 (a9.toNat:Int),.int .u8 (a10.toNat:Int),.int .u8 (a11.toNat:Int),.int .u8 (a12.toNat:Int),.int .u8 (a13.toNat:Int),.int .u8 (a14.toNat:Int),.int .u8 (a15.toNat:Int),.int .u8 (d0.toNat:Int),.int .u8 (d1.toNat:Int),.int .u8 (d2.toNat:Int),.int .u8 (d3.toNat:Int),.int .u8 (d4.toNat:Int),.int .u8 (d5.toNat:Int),.int .u8 (d6.toNat:Int),.int .u8 (d7.toNat:Int),.int .u8 (d8.toNat:Int),.int .u8 (d9.toNat:Int),.int .u8 (d10.toNat:Int),.int .u8 (d11.toNat:Int),.int .u8 (d12.toNat:Int),.int .u8 (d13.toNat:Int),.int .u8 (d14.toNat:Int),.int .u8 (d15.toNat:Int)]] w (fun v w'=>v=.int .i64 0∧St S13 M w') from aK w V hG _ hr okr cs hR)
 have cV2:=fun {M} w (V:St S13 M w) cs (hR:Z.R S13 cs (Ct 2))=>(show Ac prog 19 [.agg cs.toArray,.agg #[.int .u8 (b0.toNat:Int),.int .u8 (a1.toNat:Int),.int .u8 (a2.toNat:Int),.int .u8 (a3.toNat:Int),.int .u8 (a4.toNat:Int),.int .u8 (a5.toNat:Int),.int .u8 (a6.toNat:Int),.int .u8 (a7.toNat:Int),.int .u8 (a8.toNat:Int),.int .u8 (a9.toNat:Int),.int .u8 (a10.toNat:Int),.int .u8 (a11.toNat:Int),.int .u8 (a12.toNat:Int),.int .u8 (a13.toNat:Int),.int .u8 (a14.toNat:Int),.int .u8 (a15.toNat:Int),.int .u8 (d0.toNat:Int),.int .u8 (d1.toNat:Int),.int .u8 (d2.toNat:Int),.int .u8 (d3.toNat:Int),.int .u8 (d4.toNat:Int),.int .u8 (d5.toNat:Int),.int .u8 (d6.toNat:Int),.int .u8 (d7.toNat:Int),.int .u8 (d8.toNat:Int),.int .u8 (d9.toNat:Int),.int .u8 (d10.toNat:Int),.int .u8 (d11.toNat:Int),.int .u8 (d12.toNat:Int),.int .u8 (d13.toNat:Int),.int .u8 (d14.toNat:Int),.int .u8 (d15.toNat:Int)]] w (fun v w'=>v=.int .i64 16∧St S13 M w') from aJ w V hG ((⟨[b0,a1,a2,a3,a4,a5,a6,a7,a8,a9,a10,a11,a12,a13,a14,a15]⟩,⟨[d0,d1,d2,d3,d4,d5,d6,d7,d8,d9,d10,d11,d12,d13,d14,d15]⟩,()):Rg) (fun h=>hne (by have:=congrArg (fun r:Rg=>r.1.l) (h.symm.trans hr);simpa using this)) ⟨rfl,rfl⟩ cs hR)
 have cV3:=fun {M} w (V:St S13 M w) cs (hR:Z.R S13 cs (Ct 1))=>(show Ac prog 19 [.agg cs.toArray,.agg #[.int .u8 (a0.toNat:Int),.int .u8 (a1.toNat:Int),.int .u8 (a2.toNat:Int),.int .u8 (a3.toNat:Int),.int .u8 (a4.toNat:Int),.int .u8 (a5.toNat:Int),.int .u8 (a6.toNat:Int),.int .u8 (a7.toNat:Int),.int .u8 (a8.toNat:Int),.int .u8 (a9.toNat:Int),.int .u8 (a10.toNat:Int),.int .u8 (a11.toNat:Int),.int .u8 (a12.toNat:Int),.int .u8 (a13.toNat:Int),.int .u8 (a14.toNat:Int),.int .u8 (a15.toNat:Int),.int .u8 (d0.toNat:Int),.int .u8 (d1.toNat:Int),.int .u8 (d2.toNat:Int),.int .u8 (d3.toNat:Int),.int .u8 (d4.toNat:Int),.int .u8 (d5.toNat:Int),.int .u8 (d6.toNat:Int),.int .u8 (d7.toNat:Int),.int .u8 (d8.toNat:Int),.int .u8 (d9.toNat:Int),.int .u8 (d10.toNat:Int),.int .u8 (d11.toNat:Int),.int .u8 (d12.toNat:Int),.int .u8 (d13.toNat:Int),.int .u8 (d14.toNat:Int),.int .u8 (d15.toNat:Int)]] w (fun v w'=>v=.int .i64 16∧St S13 M w') from aI w V hG _ okr cs hR)
 clear hr okr hne hG;repeat' ((apply ZZ 19);first|(apply O ();go_step)|fail)
 refine wp_region_lit ?_;repeat' (first|apply sG ()|(apply O ();go_step)|(apply tL ();first|(refine An V (Aw (y:=Ct 2) X hpe Y) ?_;rintro v98 ⟨c98,rfl,hc98⟩)|(refine An V (Aw (y:=Ct 1) X hpb Y) ?_;rintro v99 ⟨c99,rfl,hc99⟩)<;>apply nZ ())|(apply kc ();refine sc (cV1 _ V _ hc98) ?_;clear V;rintro v w ⟨rfl,V⟩)|(apply kc ();refine sc (cV2 _ V _ hc98) ?_;clear V;rintro v w ⟨rfl,V⟩)|(apply kc ();refine sc (cV3 _ V _ hc99) ?_;clear V;rintro v w ⟨rfl,V⟩)|(apply tL ();refine Ag V (by exact BB X N.h Y FS) ?_<;>apply nZ ())|fail)
 refine Ay (vs:=[.int .i64 (2),.int .i64 (0)]) (cs:=[.int .i64 (2),.int .i64 (0)]) V Y Y rfl rfl (by simp [Value.cells]) rfl (by omega) (by omega) ?_;clear V;intro x14 w V;apply nZ ();obtain ⟨S14,hS14,hst1,hx14⟩:=St.freeze (α:=Int) V (VG (DM (by decide)) (DM (by decide))) rfl;clear V;have V:=hst1;clear hst1;obtain ⟨qa14,qn14,qc14,rfl⟩:=BQ hx14;refine Sl.k_guard ?_;refine Sl.guard_yes rfl ?_;apply nZ ();refine Ay (vs:=[.slice qa14 qn14 qc14]) (cs:=[.slice qa14 qn14 qc14]) V Y Y rfl rfl (by simp [Value.cells]) rfl (by omega) (by omega) ?_;clear V;intro y14 w V;apply nZ ();obtain ⟨T14,hT14,hst1,hy14⟩:=St.freeze (α:=List Int) V (RL.one_mk ⟨_,rfl,hx14⟩) rfl;clear V;have V:=hst1;clear hst1;repeat' (first|apply sG ()|(apply O ();go_step)|(apply kc ();refine sc (RX _ V _ _ _ _ (hkq.mono (hS14.trans hT14)) hy14) ?_;clear V;rintro v w ⟨rfl,V⟩)|fail)
 refine Ay (vs:=[.int .i64 (-1),.int .i64 (-1)]) (cs:=[.int .i64 (-1),.int .i64 (-1)]) V Y Y rfl rfl (by simp [Value.cells]) rfl (by omega) (by omega) ?_;clear V;intro x15 w V;apply nZ ();obtain ⟨S15,hS15,hst1,hx15⟩:=St.freeze (α:=Int) V (VG (DM (by decide)) (DM (by decide))) rfl;clear V;have V:=hst1;clear hst1;obtain ⟨qa15,qn15,qc15,rfl⟩:=BQ hx15;refine Sl.k_guard ?_;refine Sl.guard_yes rfl ?_;apply nZ ();refine Ay (vs:=[.slice qa15 qn15 qc15]) (cs:=[.slice qa15 qn15 qc15]) V Y Y rfl rfl (by simp [Value.cells]) rfl (by omega) (by omega) ?_;clear V;intro y15 w V;apply nZ ();obtain ⟨T15,hT15,hst1,hy15⟩:=St.freeze (α:=List Int) V (RL.one_mk ⟨_,rfl,hx15⟩) rfl;clear V;have V:=hst1;clear hst1;repeat' (first|apply sG ()|(apply O ();go_step)|(apply kc ();refine sc (RX _ V _ _ _ _ (hkn.mono ((hS14.trans hT14).trans (hS15.trans hT15))) hy15) ?_;clear V;rintro v w ⟨rfl,V⟩)|fail)
 go_ret;exact ⟨_,rfl,rfl,St.weaken (hle.trans ((hS14.trans hT14).trans (hS15.trans hT15))) V.drop.drop.drop.drop⟩
theorem wI {S M} (w) (V:St S M w) (hG:Bu S) (vl) (l:List Rn) (hl:RSl S vl l) (hm:l.length≤1048576) (m) (hm16:m.l.length=16) (p1 p2:UInt32):
  Ac prog 5 [vl,Cu m,.int .u32 (p1.toNat:Int),.int .u32 (p2.toNat:Int)] w fun v w'=>v=.bool true∧St S M w' :=
 wO (fun w V vl l hl hm=>W0 w V vl l hl hm) (fun w V hG=>gD w V hG) w V hG vl l hl hm m hm16 p1 p2
end Go.Proofs.YtmmbidoldegemaaGreatDoor
namespace Go.Proofs.YtmmbidoldegemaaGreatDoor
open Go.ChangeAt Go.ChangeShapes Go.RowKit Go.Sl Go.WideShapes Go.Proofs.Tryz
instance tj:Opens prog 5 UInt8:=YT kr
instance qR:Opens prog 65 (List UInt8):=Nl (kZ) (mW) (by decide)
instance ti:Opens prog 23 Dg:=Rq (iZ) kr kr
theorem own:ownKnob prog.godebug=none:=by kernel_rfl
theorem eL {α:Type} [Siz α] {xs:List α} (h:∀ x∈xs,1≤Siz.siz x):xs.length≤(xs.map Siz.siz).sum:=by
 induction xs with
 | nil=>simp
 | cons a l ih =>
  have:=ih fun x hx=>h x (.tail _ hx)
  have:=h a (.head _);simp only [List.length_cons,List.map_cons,List.sum_cons];omega
set_option maxRecDepth 20000 in
theorem fG {α:Type} [Z α] [Siz α] {T E} [Opens prog T (List α)] (hT:prog.underlying T=some (.slice E)) {H:Type} {enc:TypeId×Value→H} {W base v d p} (hv:Value.okWide prog W .any base T v) (h:DataW.Trod enc prog W 0 (fun _=>true) true T v d p):
  ∃ xs:List α,RSl (DN W) v xs∧(xs.map Siz.siz).sum+1≤Rows.uptoBulk d:=by
 obtain ⟨a,n,c,rfl⟩:=okWide_slice hT hv;obtain ⟨y,⟨v',e,hy⟩,hs⟩:=Qb (α:=List α) h;obtain rfl:v'=.slice a n c:=by simpa [Value.cells] using e.symm
 exact ⟨y,hy,hs⟩
theorem Qc {P w r base t v n e} (ht:P.underlying t=some (.array n e)) (h:Value.okWide P w r base t v):∃ cs,v=.agg cs:=by
 simp only [Value.okWide,ht] at h;obtain ⟨cs,h1,_⟩:=h;exact ⟨cs,h1⟩
set_option maxRecDepth 20000 in
theorem cL {H:Type} {enc:TypeId×Value→H} {W base v d p} (hv:Value.okWide prog W .any base 23 v) (h:DataW.Trod enc prog W 0 (fun _=>true) true 23 v d p):
  ∃ y:Dg,v=Cu y∧y.l.length=16:=by
 obtain ⟨cs,rfl⟩:=Qc underlying23 hv;obtain ⟨y,hy,_⟩:=Qb (α:=Dg) h;obtain ⟨h1,e⟩:=ZA hy
 have e':cs=(u8s y.l).toArray:=by
  apply Array.ext';exact e
 subst e';exact ⟨y,rfl,h1⟩
theorem eK:∀ ws:List UInt32,(List.map (fun z=>Value.int .u32 z) (ws.map fun x=>(x.toNat:Int)))=cF CH ws
 | []=>rfl
 | a::l=>by
  show _::_=_::cF CH l;rw [← eK l]
theorem OX {W name g n ws} (hg:prog.globalNamed name=some g) (hn:ws.length=n) (h:Lib.TabIs prog W name .u32 (ws.map fun x=>(x.toNat:Int))):Pt (DN W) (.pointer (some ⟨g,0,none⟩)) (⟨ws⟩:H7 UInt32 n):=by
 unfold Lib.TabIs World.var? at h;rw [hg] at h;simp only [Option.bind_some] at h;split at h
 ·rename_i cs T fz hc;obtain rfl:=Option.some.inj h;refine ⟨g,0,_,T,fz,rfl,hc,?_⟩;have hz:Z.z (H7 UInt32 n)=n:=by show n * 1=n;omega
  rw [hz,List.drop_zero,List.take_of_length_le (by simp only [List.length_map];omega)];rw [eK];refine ⟨hn,by rw [Ks];show ws.length=ws.length * 1;omega,fun j x hx=>?_⟩;have hj:j < ws.length:=(List.getElem?_eq_some_iff.1 hx).1;have hz2:Z.z UInt32=1:=rfl;rw [hz2,Nat.mul_one,Im ws j hj,List.getD_eq_getElem?_getD,hx];rfl
 ·cases h
theorem Vh:Rows.laid_bootchain_sha_start (H:=Unit)=Lib.tabData .u32 (Gf.l.map fun x=>(x.toNat:Int)):=by rfl
theorem ZG:Rows.laid_bootchain_sha_constants (H:=Unit)=Lib.tabData .u32 (Il.map fun x=>(x.toNat:Int)):=by rfl
theorem dH {W} (h:laidMetH prog [("bootchain/sha.constants",Rows.laid_bootchain_sha_constants),("bootchain/sha.start",Rows.laid_bootchain_sha_start)] W):Bu (DN W):=by
 rw [Vh,ZG] at h;have h1:laidMet prog [("bootchain/sha.constants",Lib.tabData .u32 (Il.map fun x=>(x.toNat:Int))),("bootchain/sha.start",Lib.tabData .u32 (Gf.l.map fun x=>(x.toNat:Int)))] W:=h
 exact ⟨OX kr rfl (Lib.tabIs_of_head (g:=0) (t:=220) (e:=38) (n:=8) kr kr kr kr kr kr (Go.laidMet.tail h1)),
  OX kr rfl (Lib.tabIs_of_head (g:=1) (t:=228) (e:=38) (n:=64) kr kr kr kr kr kr h1)⟩
def Qn (cs:List Value):Obj→Obj
 | .cells _ t frozen=>.cells cs.toArray t frozen
 | o=>o
noncomputable def K9 (os:Os) (is:Array Value):World :=
 { World.holding prog os ⟨#[],is,[]⟩ with heap:=((World.holding prog os ⟨#[],is,[]⟩).heap.modify 0 (Qn (cF CH Gf.l))).modify 1 (Qn (cF CH Il)) }
instance mZ:Opens prog 9 Cv:=V2 kr
instance qQ:Opens prog 67 Rn:=P9 underlying67 kr
 (L7 rfl kr (ob:=L7 rfl kr (ob:=TN)))
instance oH:Opens prog 37 (List Rn):=Nl (k5) (kN) (by decide)
set_option maxRecDepth 20000 in
theorem YU {H:Type} {enc:TypeId×Value→H} {W base v d p} (hv:Value.okWide prog W .any base 37 v) (h:DataW.Trod enc prog W 0 (fun _=>true) true 37 v d p) (hk:Rows.uptoBulk d≤1048576):
  ∃ xs:List Rn,RSl (DN W) v xs∧xs.length≤1048576:=by
 obtain ⟨xs,hx,hs⟩:=fG (α:=Rn) underlying37 hv h;have:=eL (xs:=xs) fun x _=>(show 1≤x.1.b.length+(((x.2.1).map Siz.siz).sum+1+0) by omega)
 exact ⟨xs,hx,by omega⟩
set_option maxRecDepth 20000 in
theorem Qa {H:Type} {enc:TypeId×Value→H} {W base v d p} (hv:Value.okWide prog W .any base 38 v) (h:DataW.Trod enc prog W 0 (fun _=>true) true 38 v d p):
  ∃ n:UInt32,v=.int .u32 (n.toNat:Int):=by
 obtain ⟨n,rfl,_,_,wf⟩:=open_int underlying38 hv h;have hn:0≤n∧n≤4294967295:=by simpa [Lit.wf,IntKind.min,IntKind.max,IntKind.signed,IntKind.bits,Au] using wf
 refine ⟨UInt32.ofNat n.toNat,?_⟩;rw [UInt32.toNat_ofNat_of_lt' (by show n.toNat < 4294967296;omega),Int.toNat_of_nonneg hn.1]
set_option maxRecDepth 20000 in
theorem wn (H:Type) (enc W base args ds gs before) (hval:∀ (j:Nat) t v,f5.params[j]? = some t→args[j]? = some v→Value.okWide prog W .any base t v) (hW:DataW.Whole enc prog f5.params.toList Rows.discloseRedactSpec.vars false W args.toList ds gs before) (hk:Rows.uptoSmall H (ds++gs)=true) (hL:laidMetH prog Rows.discloseRedactUptoRow.laid W):
  Calls prog 5 args W fun e W'=>∃ v,e=.returned v∧Rows.discloseRedactSpec.post enc prog f5 false true false false W args v W':=by
 have hW':=hW;obtain ⟨p,q,hA0,hV,rfl,hfz,hnd⟩:=hW;have hA:DataW.TrodAll enc prog W 0 (fun _=>true) true f5.params.toList args.toList ds p:=hA0;have hk:=Vk hk;rw [params5] at hA hval;obtain ⟨v0,vs0,d0,ds0,p0,q0,hargs,rfl,rfl,h0,r0⟩:=trodAll_cons hA;obtain ⟨v1,vs1,d1,ds1,p1,q1,rfl,rfl,rfl,h1,r1⟩:=trodAll_cons r0;obtain ⟨v2,vs2,d2,ds2,p2,q2,rfl,rfl,rfl,h2,r2⟩:=trodAll_cons r1;obtain ⟨v3,vs3,d3,ds3,p3,q3,rfl,rfl,rfl,h3,r3⟩:=trodAll_cons r2;obtain ⟨rfl,rfl,rfl⟩:=trodAll_nil r3;obtain rfl:args = #[v0,v1,v2,v3]:=by cases args;simp_all
 obtain ⟨rfl,rfl⟩:=trodVars_none hV;simp only [List.append_nil,Rows.uptoBulkAll] at hk;obtain ⟨l0,hl0,hm0⟩:=YU (hval 0 37 v0 rfl rfl) h0 (by omega);obtain ⟨d1,rfl,hd1⟩:=cL (hval 1 23 v1 rfl rfl) h1;obtain ⟨n2,rfl⟩:=Qa (hval 2 38 v2 rfl rfl) h2;obtain ⟨n3,rfl⟩:=Qa (hval 3 38 v3 rfl rfl) h3;refine Calls.mono (wI W (St.start W) (dH hL) v0 l0 hl0 hm0 d1 hd1 n2 n3) fun e W' ⟨v,he,hv,V⟩=>?_
 subst hv;exact ⟨_,he,Y8 (tb:=4) rfl hW' kr (by rw [params5];intro t ht';have e:t=37∨t=23∨t=38:=(by simpa using ht');rcases e with rfl|rfl|rfl<;>exact ⟨by kernel_rfl,of_decide_eq_true kr⟩) kr kr rfl rfl rfl V.below⟩
abbrev uN:Array Value:=#[.slice none 0 0,.agg #[.int .u8 0,.int .u8 0,.int .u8 0,.int .u8 0,.int .u8 0,.int .u8 0,.int .u8 0,.int .u8 0,.int .u8 0,.int .u8 0,.int .u8 0,.int .u8 0,.int .u8 0,.int .u8 0,.int .u8 0,.int .u8 0],.int .u32 0,.int .u32 0]
theorem wx (os):laidMet prog Rows.discloseRedactUptoRow.laid ((K9 os #[]).forCall (fun _ _=>0) ⟨#[],uN,[]⟩).memory :=
 laidMet_of_run' 8 kr kr
theorem wb (os) {H:Type} (enc:TypeId×Value→H):∃ places,DataW.whole enc prog ((K9 os #[]).forCall (fun _ _=>0) ⟨#[],uN,[]⟩).memory f5.params.toList Rows.discloseRedactSpec.vars false uN.toList 8=some ([.nil,.agg [.lit (.int .u8 0),.lit (.int .u8 0),.lit (.int .u8 0),.lit (.int .u8 0),.lit (.int .u8 0),.lit (.int .u8 0),.lit (.int .u8 0),.lit (.int .u8 0),.lit (.int .u8 0),.lit (.int .u8 0),.lit (.int .u8 0),.lit (.int .u8 0),.lit (.int .u8 0),.lit (.int .u8 0),.lit (.int .u8 0),.lit (.int .u8 0)],.lit (.int .u32 0),.lit (.int .u32 0)],[],places) :=
 ⟨[],by kernel_rfl⟩
set_option maxRecDepth 100000 in
theorem vP (os) (started:os.Started) (H:Type) (enc:TypeId×Value→H) (F):
  ReturnsInHanded {} checked os 5 .any ((Rows.OpenSpec.upto Rows.discloseRedactSpec).preRow enc prog f5 Rows.discloseRedactUptoRow.domain false Rows.discloseRedactUptoRow.laid) (((Rows.OpenSpec.upto Rows.discloseRedactSpec).at F).post enc prog f5 false true false false):=by
 obtain ⟨places,hx⟩:=wb os enc
 refine returnsInHanded_of_row (C:=checked) (s:=Rows.OpenSpec.upto Rows.discloseRedactSpec) own started kr func5
  (witness_row_at (enc:=enc) (C:=checked) false (K9 os #[]) uN rfl kr kr kr (OpenSpec.preRow_of_cond 8 hx kr (fun k hk=>by cases hk;kernel_rfl) kr (wx os))) ?_
 intro W base args ds gs before hval hW _ hc _ hL _ _;exact wn H enc W base args ds gs before hval hW (hc _ rfl) hL
theorem wm:Rows.DiscloseRedactUptoSaid :=
 OpenClaim.holds_of_cond 5 f5 rfl rfl rfl rfl rfl rfl rfl ⟨rfl,rfl,rfl,rfl,rfl⟩ rfl rfl rfl rfl rfl kr func5 kr
  (of_decide_eq_true kr) (by unfold Func.isWrapper;first|(rw [if_pos (by decide +kernel)];kernel_rfl)|(rw [if_neg (by decide +kernel)];exact ⟨rfl,rfl⟩))
  (fun os started H enc _ F=>by rw [OpenClaim.pre_eq_preRow];exact vP os started H enc F)
theorem wc (f fn) (hf:Tryz.pinned.checked.prog.funcNamed "bootchain/bootchainlaw22.DiscloseRedact" = some f) (hfn:Tryz.pinned.checked.prog.funcs[f]? = some fn):
  false=Tryz.pinned.checked.prog.looks []∧∀ (j:Nat) t,fn.params[j]? = some t→Tryz.pinned.checked.prog.wantsStandIn t=false:=by
 obtain rfl:f=5:=Option.some.inj ((show prog.funcNamed "bootchain/bootchainlaw22.DiscloseRedact" = some 5 by kernel_rfl).symm.trans hf) |>.symm
 obtain rfl:fn=f5:=(Option.some.inj (func5.symm.trans hfn)).symm;refine ⟨by kernel_rfl,fun j t ht=>?_⟩;rw [params5] at ht;have e:t=37∨t=23∨t=38:=by simpa using Array.mem_of_getElem? ht
 rcases e with rfl|rfl|rfl
 ·exact (show prog.wantsStandIn 37=false by kernel_rfl)
 ·exact (show prog.wantsStandIn 23=false by kernel_rfl)
 ·exact (show prog.wantsStandIn 38=false by kernel_rfl)
theorem dred_proved:Rows.DiscloseRedactUptoCardSaid :=
 Claim7.holds_tied_plain_at .later [] _ _ _ _ wm (fun _ h=>by cases h) kr (fun _ h=>by cases h) discloseRedactUpto_row_tie rfl ⟨rfl,rfl⟩ kr rfl wc kr
end Go.Proofs.YtmmbidoldegemaaGreatDoor
