/- Part 28 of the proof that the law of the last part holds; no conditions. -/
import Derived.Test.YtmmbidoldegemaaGreatDoorZ26
set_option linter.unusedSimpArgs false
set_option linter.unusedVariables false
set_option maxRecDepth 8000
set_option maxHeartbeats 8000000
namespace Go.Proofs.YtmmbidoldegemaaGreatDoor
open Go.RowKit Go.Sl
def NI (i:Ip):Int:=if i.2.1=1∨i.2.1=3 then 2 else i.2.2.2.1
theorem Lv (p:Pg):FV p=p.1.map NI:=rfl
theorem dU {S:Ac} {v:Value} {xs:List Ip} (h:RSl S v xs) {i:Nat} (hi:i < xs.length):Au xs[i].2.2.2.1:=by
 rcases h with ⟨ad,cap,rfl,rfl,_⟩|⟨b,o,cap,c,T,fz,rfl,_,_,_,hR⟩
 ·simp at hi
 ·have h:=hR.2 i xs[i] (List.getElem?_eq_getElem hi);exact h.2.2.2.2.2.2.2.1.2
theorem Zj {S M} (w:World) (hst:St S M w) (si sn:Sv) (p:Pg) (hp:Du S si sn p) :
  Ad Tryz.prog 71 [CR si sn p] w (IJ S M (FV p)):=by
 unfold Ad;have hi:=hp.i;have hli:=hp.li;obtain ⟨R,hR⟩:∃ R,FV p=R:=⟨_,rfl⟩
 rw [hR];rw [Lv] at hR;have HR:=Lib.hid hR;clear hR hp;generalize hxs:p.1=xs at HR hi hli;clear hxs;go_enter Tryz.func71,Tryz.ntmps71;replace hst:=hst.nil 3 1;repeat' (first|(apply gK ();go_step)|(apply sB ();clear hst;intro bx w hst)|fail)
 go_loopw [3,4] (fun u3 u4 wr=>∃ (i:Nat) (so:Sv) (co:List Value),i≤xs.length∧u3=Ar so∧u4=.int .i64 (i:Int)∧RL S co ((xs.take i).map NI)∧St S (.box bx [.slice si.1 si.2.1 si.2.2,.slice sn.1 sn.2.1 sn.2.2,.int .i64 p.2.2.1,.int .i64 p.2.2.2.1] 87::.sl (Ar so) 3 1 i co::M) wr) (fun _ v _=>xs.length - (intOf v).toNat)
 case atStart=>exact ⟨0,(none,0,0),[],Nat.zero_le _,rfl,rfl,RL.nil,hst⟩
 case round =>
  clear hst;obtain ⟨i,so,co,hi2,rfl,rfl,hC,hst⟩:=hrel;have hone:=Bh (k:=1) hst rfl;by_cases hlt:i < xs.length
  ·have hI:=dU hi hlt;have hsn:Hid ((xs.take (i+1)).map NI=(xs.take i).map NI++[NI xs[i]]):=Lib.hid (by rw [List.take_succ_eq_append_getElem hlt,List.map_append];rfl);by_cases h:xs[i].2.1=1∨xs[i].2.1=3
   ·have hs:Hid (NI xs[i]=2):=Lib.hid (if_pos h);obtain ⟨z1,hz1⟩:∃ z,(xs[i].2.1 == 1)=z:=⟨_,rfl⟩
    obtain ⟨z2,hz2⟩:∃ z,(xs[i].2.1 == 3)=z:=⟨_,rfl⟩
    have hc:z1=true∨(z1=false∧z2=true):=by
     rcases h with h|h
     ·left;rw [← hz1,h];rfl
     ·right;exact ⟨by rw [← hz1,h];rfl,by rw [← hz2,h];rfl⟩
    clear h;rcases hc with rfl|⟨rfl,rfl⟩
    all_goals
     repeat' (first|apply sK ()|apply sG ()|(apply gK ();go_step)|apply sX ()|(apply sN ();intro hI)|(apply sI ();intro v hp)|fail)
     refine AA (vs:=[(.int .i64 2)]) hst Aa Aa rfl rfl (by simp [Value.cells]) rfl (by omega) (by omega) ?_;clear hst;intro u w hst;refine nX ?_;refine AG (j:=0) hst Ab Ab SlIn.h rfl Aa Aa Aa (by simp [Value.cells,Value.oneCell']) (by omega) (by omega) (by decide) ?_;clear hst;intro v' w hst;refine nX ?_;(try replace hst:=nH hst);replace hst:=hst.drop;obtain ⟨ay,cy,rfl⟩:=sl_formk (k:=1) hst rfl;(try refine nX ?_);repeat' (first|(apply gK ();go_step)|fail)
     go_roundw
     case rel=>exact ⟨i+1,(ay,i+1,cy),co++[.int .i64 2],by omega,rfl,by go_num,by rw [hsn.out,hs.out];exact hC.append (Cg (Aj (by decide))),hst⟩
     case measure=>simp [intOf];omega
   ·have hs:Hid (NI xs[i]=xs[i].2.2.2.1):=Lib.hid (if_neg h);have hz1:(xs[i].2.1 == 1)=false:=beq_eq_false_iff_ne.2 (by omega);have hz2:(xs[i].2.1 == 3)=false:=beq_eq_false_iff_ne.2 (by omega);clear h;repeat' (first|apply sK ()|apply sG ()|(apply gK ();go_step)|apply sX ()|(apply sN ();intro hI)|(apply sI ();intro v hp)|fail)
    refine AA (vs:=[(.int .i64 xs[i].2.2.2.1)]) hst Aa Aa rfl rfl (by simp [Value.cells]) rfl (by omega) (by omega) ?_;clear hst;intro u w hst;refine nX ?_;refine AG (j:=0) hst Ab Ab SlIn.h rfl Aa Aa Aa (by simp [Value.cells,Value.oneCell']) (by omega) (by omega) (by decide) ?_;clear hst;intro v' w hst;refine nX ?_;(try replace hst:=nH hst);replace hst:=hst.drop;obtain ⟨ay,cy,rfl⟩:=sl_formk (k:=1) hst rfl;(try refine nX ?_);repeat' (first|(apply gK ();go_step)|fail)
    go_roundw
    case rel=>exact ⟨i+1,(ay,i+1,cy),co++[.int .i64 xs[i].2.2.2.1],by omega,rfl,by go_num,by rw [hsn.out,hs.out];exact hC.append (Cg hI),hst⟩
    case measure=>simp [intOf];omega
  ·obtain rfl:i=xs.length:=by omega
   rw [List.take_length,HR.out] at hC;have hl:Hid (xs.length=R.length):=Lib.hid (by rw [← HR.out,List.length_map]);clear HR;repeat' (first|(apply gK ();go_step)|apply sX ()|fail)
   replace hst:=hst.drop;obtain ⟨S2,so2,hS2,e2,hx,hst2⟩:=ED hst hC hl.out;clear hst;have hst:=hst2;clear hst2;go_ret;exact ⟨_,rfl,S2,so2,hS2,e2,hx,hst⟩
abbrev P6 (S:Ac) (M:List Chunk) (r:Int) (v:Value) (w:World):Prop:=∃ S',S.Le S'∧v=.int .i64 r∧St S' M w
theorem Yk {S M} (w:World) (hst:St S M w) (si sn:Sv) (p:Pg) (hkd:RP p) (hp:Du S si sn p) (hf:CH p=true) :
  Ad Tryz.prog 70 [CR si sn p] w (P6 S M (DR (BA p.2.1 (p.2.1.length+1) p.2.2.1) 1)):=by
 unfold Ad;have hw:=KT hkd hf;have cF:=fun {M:List Chunk} (w:World) (hst:St S M w)=>Pz w hst si sn p hp
 rw [hf] at cF;have hrt:=hw.rt;have hn0:=hw.n0
 have cC:∀ {S':Ac} {M:List Chunk} (w:World) (hS:S.Le S') (hst:St S' M w),Ad Tryz.prog 114 [CR si sn p,.int .i64 p.2.2.1] w fun v w'=>v=.int .i64 (BA p.2.1 (p.2.1.length+1) p.2.2.1)∧St S' M w':=fun w hS hst=>by
  rw [show p.2.2.1=((p.2.1.length - 1:Nat):Int) by omega];have:=VI p (p.2.1.length+1) w si sn (p.2.1.length - 1) hst (hp.mono hS) hw (by omega) (by omega);rw [show (CR si sn p)=CR si sn p from rfl] at this
  simpa [show p.2.2.1=((p.2.1.length - 1:Nat):Int) by omega] using this
 have hb:=FE p.2.1 (p.2.1.length+1) p.2.2.1;generalize BA p.2.1 (p.2.1.length+1) p.2.2.1=t at *;clear hrt hw hf;go_enter Tryz.func70,Tryz.ntmps70;repeat' (first|(apply gK ();go_step)|(apply kc ();refine sc (cF _ hst) ?_;clear hst;rintro v w ⟨S1,hS1,rfl,hst⟩)|(apply kc ();refine sc (cC _ hS1 hst) ?_;clear hst;rintro v w ⟨rfl,hst⟩)|(apply kc ();refine sc (Ja _ hst t 1 (by omega) (by omega)) ?_;clear hst;rintro v w ⟨rfl,hst⟩)|apply sX ()|(apply sB ();clear hst;intro bx w hst)|fail)
 go_ret;exact ⟨_,rfl,S1,hS1,rfl,hst.sub⟩
theorem RF {p:Pg} (h:CH p=false):BH p=1:=by unfold BH;simp only;rw [if_pos h]
theorem aU {p:Pg} (h:CH p=true) (h2:Fd p=false):BH p=4:=by unfold BH;simp only;rw [if_neg (by rw [h];decide),if_pos h2]
theorem aT {p:Pg} (h:CH p=true) (h2:Fd p=true) (h3:p.2.1.all (Ct p (p.2.1.length+1))=false):BH p=5:=by
 unfold BH;simp only;rw [if_neg (by rw [h];decide),if_neg (by rw [h2];decide),if_pos h3]
theorem aV {p:Pg} (h:CH p=true) (h2:Fd p=true) (h3:p.2.1.all (Ct p (p.2.1.length+1))=true) (h4:Gt p=false∨p.1.length > 6∨p.2.2.2.1 > 8∨DR (BA p.2.1 (p.2.1.length+1) p.2.2.1) 1 > 3000):BH p=2:=by
 unfold BH;simp only;rw [if_neg (by rw [h];decide),if_neg (by rw [h2];decide),if_neg (by rw [h3];decide),if_pos h4]
theorem aS {p:Pg} (h:CH p=true) (h2:Fd p=true) (h3:p.2.1.all (Ct p (p.2.1.length+1))=true) (h4:¬ (Gt p=false∨p.1.length > 6∨p.2.2.2.1 > 8∨DR (BA p.2.1 (p.2.1.length+1) p.2.2.1) 1 > 3000)):BH p=if G7 (FV p) 1=false then 2 else 0:=by
 unfold BH;simp only;rw [if_neg (by rw [h];decide),if_neg (by rw [h2];decide),if_neg (by rw [h3];decide),if_neg h4]
theorem WD {p:Pg} (hf:CH p=true) (hr:Gt p=true):∀ s∈FV p,1≤s∧s≤1024:=by
 intro s hs;rw [Lv] at hs;obtain ⟨i,hi,rfl⟩:=List.mem_map.1 hs
 have hk:¬ (i.2.1 < 1∨i.2.1 > 4):=by
  intro hb;have:p.1.any (fun i=>decide (i.2.1 < 1∨i.2.1 > 4))=true:=List.any_eq_true.2 ⟨i,hi,decide_eq_true hb⟩;unfold CH at hf;simp only at hf;rw [this] at hf;split at hf
  ·cases hf
  ·split at hf
   ·cases hf
   ·simp at hf
 unfold Gt at hr;have h2:=List.all_eq_true.1 (Bool.and_eq_true_iff.1 hr).2 i hi;simp only [Bool.not_eq_true',Bool.or_eq_false_iff,decide_eq_false_iff_not] at h2;unfold NI;split<;>omega
theorem Sm {zs:List Int} {i:Nat} (h:i < zs.length) (n:Int):G7 (zs.drop i) n=if n * zs[i] > 1024 then false else G7 (zs.drop (i+1)) (n * zs[i]):=by
 rw [List.drop_eq_getElem_cons h,G7]
theorem dD {n z:Int} (hn:1≤n∧n≤1024) (hz:1≤z∧z≤1024):1≤n * z∧n * z≤1048576:=by
 have h1:0 < n * z:=Int.mul_pos (by omega) (by omega);have h2:n * z≤1024 * 1024:=Int.mul_le_mul hn.2 hz.2 (by omega) (by omega);omega
theorem O6 {S M} (w:World) (hst:St S M w) (si sn:Sv) (p:Pg) (hkd:RP p) (hp:Du S si sn p) :
  Ad Tryz.prog 37 [CR si sn p] w (P6 S M (BH p)):=by
 unfold Ad;have cF:=fun {M:List Chunk} (w:World) (hst:St S M w)=>Pz w hst si sn p hp
 cases hf:CH p with
 | false =>
  rw [hf] at cF;have HR:=Lib.hid (RF hf);clear hf;go_enter Tryz.func37,Tryz.ntmps37;repeat' (first|(apply gK ();go_step)|(apply kc ();refine sc (cF _ hst) ?_;clear hst;rintro v w ⟨S1,hS1,rfl,hst⟩)|apply sX ()|(apply sB ();clear hst;intro bx w hst)|fail)
  go_ret;exact ⟨_,rfl,S1,hS1,by rw [HR.out];rfl,hst.sub⟩
 | true =>
  rw [hf] at cF;have cN:=fun {S':Ac} {M:List Chunk} (w:World) (hS:S.Le S') (hst:St S' M w)=>ZO w hst si sn p (hp.mono hS)
  cases hn:Fd p with
  | false =>
   rw [hn] at cN;have HR:=Lib.hid (aU hf hn);clear hf hn;go_enter Tryz.func37,Tryz.ntmps37;repeat' (first|(apply gK ();go_step)|(apply kc ();refine sc (cF _ hst) ?_;clear hst;rintro v w ⟨S1,hS1,rfl,hst⟩)|(apply kc ();refine sc (cN _ hS1 hst) ?_;clear hst;rintro v w ⟨rfl,hst⟩)|apply sX ()|(apply sB ();clear hst;intro bx w hst)|fail)
   go_ret;exact ⟨_,rfl,S1,hS1,by rw [HR.out];rfl,hst.sub⟩
  | true =>
   rw [hn] at cN;have hw:=KT hkd hf;have hnm:=XB hn;have hln:=hp.ln;have C5:=fun h=>Lib.hid (aT hf hn h)
   have C2:=fun h3 h4=>Lib.hid (aV hf hn h3 h4)
   have CE:=fun h3 h4=>Lib.hid (aS hf hn h3 h4)
   have HF:=Lib.hid hf;obtain ⟨R,hR⟩:∃ R,BH p=R:=⟨_,rfl⟩
   rw [hR] at C5 C2 CE;rw [hR];have HP:=Lib.hid hp;have HW:=Lib.hid hw;have HNM:=Lib.hid hnm;clear hR hf hn hw hnm;go_enter Tryz.func37,Tryz.ntmps37;repeat' ((apply Z7 ());first|(apply gK ();go_step)|(apply kc ();refine sc (cF _ hst) ?_;clear hst;rintro v w ⟨S1,hS1,rfl,hst⟩)|(apply kc ();refine sc (cN _ hS1 hst) ?_;clear hst;rintro v w ⟨rfl,hst⟩)|apply sX ()|(apply sB ();clear hst;intro bx w hst)|fail)
   have hp1:=hp.mono hS1;have hn1:=hp1.n;have hi1:=hp1.i;have HP1:=Lib.hid hp1;clear cF cN hp hp1;repeat' (first|(apply gK ();go_step)|fail)
   go_loopw [5,6] (fun u5 _ wr=>∃ (i:Nat),i≤p.2.1.length∧u5=.int .i64 (i:Int)∧Hid ((p.2.1.take i).all (Ct p (p.2.1.length+1))=true)∧St S1 (.box bx [.slice si.1 si.2.1 si.2.2,.slice sn.1 sn.2.1 sn.2.2,.int .i64 p.2.2.1,.int .i64 p.2.2.2.1] 87::M) wr) (fun v _ _=>p.2.1.length - (intOf v).toNat)
   case atStart=>exact ⟨0,Nat.zero_le _,rfl,Lib.hid rfl,hst⟩
   case round =>
    clear hst;obtain ⟨i,hi2,rfl,HA,hst⟩:=hrel;by_cases hlt:i < p.2.1.length
    ·have hnx:=Lib.hid (LT (Ct p (p.2.1.length+1)) p.2.1 hlt);have cT:=fun {M:List Chunk} (w:World) (hst:St S1 M w)=>Zc (f:=p.2.1.length+1) hst HP1.out HW.out HNM.out hlt (Nat.le_refl _)
     cases hz:Ct p (p.2.1.length+1) p.2.1[i] with
     | false =>
      have HE:=C5 (P0 (q:=Ct p (p.2.1.length+1)) hlt hz);rw [hz] at cT;clear hz;repeat' (first|(apply gK ();go_step)|(apply kc ();refine sc (cT _ hst) ?_;clear hst;rintro v w ⟨rfl,hst⟩)|apply sX ()|fail)
      go_ret;exact ⟨_,rfl,S1,hS1,by rw [HE.out];rfl,hst.sub⟩
     | true =>
      rw [hz] at cT;have HZ:=Lib.hid hz;clear hz;repeat' (first|(apply gK ();go_step)|(apply kc ();refine sc (cT _ hst) ?_;clear hst;rintro v w ⟨rfl,hst⟩)|apply sX ()|fail)
      go_roundw
      case rel=>exact ⟨i+1,by omega,by go_num,Lib.hid (by rw [hnx.out,HA.out,HZ.out];rfl),hst⟩
      case measure=>simp [intOf];omega
    ·have HA2:=HA.out;rw [List.take_of_length_le (by omega)] at HA2;have D2:=C2 HA2;have DE:=CE HA2;have cR:=fun {M:List Chunk} (w:World) (hst:St S1 M w)=>Xb w hst si sn p HP1.out
     have cK:=fun {M:List Chunk} (w:World) (hst:St S1 M w)=>Yk w hst si sn p hkd HP1.out HF.out
     have HSZ:Hid (Gt p=true→∀ s∈FV p,1≤s∧s≤1024):=Lib.hid (WD HF.out);have hcb:=ET (FE p.2.1 (p.2.1.length+1) p.2.2.1).1 (show (0:Int)≤1 by omega);generalize DR (BA p.2.1 (p.2.1.length+1) p.2.2.1) 1=t at *;generalize Gt p=z1 at *;obtain ⟨z2,hz2⟩:∃ z,decide ((p.1.length:Int) > 6)=z:=⟨_,rfl⟩
     obtain ⟨z3,hz3⟩:∃ z,decide (p.2.2.2.1 > 8)=z:=⟨_,rfl⟩
     obtain ⟨z4,hz4⟩:∃ z,decide (t > 3000)=z:=⟨_,rfl⟩
     have hc:(z1=false∨p.1.length > 6∨p.2.2.2.1 > 8∨t > 3000)↔(!z1 || (z2 || (z3 || z4)))=true:=by
      rw [← hz2,← hz3,← hz4];simp only [Bool.or_eq_true,Bool.not_eq_true',decide_eq_true_eq];constructor
      ·rintro (h|h|h|h)
       ·exact .inl h
       ·exact .inr (.inl (by omega))
       ·exact .inr (.inr (.inl h))
       ·exact .inr (.inr (.inr h))
      ·rintro (h|h|h|h)
       ·exact .inl h
       ·exact .inr (.inl (by omega))
       ·exact .inr (.inr (.inl h))
       ·exact .inr (.inr (.inr h))
     simp only [hc] at D2 DE;clear hc HA2 C5 C2 CE HA;have kz:z1=false∨(z1=true∧z2=true)∨(z1=true∧z2=false∧z3=true)∨(z1=true∧z2=false∧z3=false∧z4=true)∨(z1=true∧z2=false∧z3=false∧z4=false):=by cases z1<;>cases z2<;>cases z3<;>cases z4<;>simp
     rcases kz with rfl|⟨rfl,rfl⟩|⟨rfl,rfl,rfl⟩|⟨rfl,rfl,rfl,rfl⟩|⟨rfl,rfl,rfl,rfl⟩
     ·have HE:=D2 (by simp);clear D2 DE;repeat' (first|go_skip|(apply gK ();go_step)|(apply kc ();refine sc (cR _ hst) ?_;clear hst;rintro v w ⟨rfl,hst⟩)|apply sX ()|fail)
      go_ret;exact ⟨_,rfl,S1,hS1,by rw [HE.out];rfl,hst.sub⟩
     ·have HE:=D2 (by simp);clear D2 DE;apply gY ()
     ·have HE:=D2 (by simp);clear D2 DE;apply gY ()
     ·have HE:=D2 (by simp);clear D2 DE;repeat' (first|apply sK ()|apply sG ()|(apply gK ();go_step)|(apply kc ();refine sc (cR _ hst) ?_;clear hst;rintro v w ⟨rfl,hst⟩)|(apply kc ();refine sc (cK _ hst) ?_;clear hst;rintro v w ⟨S2,hS2,rfl,hst⟩)|apply sX ()|fail)
      go_ret;exact ⟨_,rfl,S2,hS1.trans hS2,by rw [HE.out];rfl,hst.sub⟩
     ·have HE:=DE (by simp);clear D2 DE;have HSL:Hid ((FV p).length≤100000):=Lib.hid (by rw [Lv,List.length_map];exact HP1.out.li);have cS:=fun {S':Ac} {M:List Chunk} (w:World) (hS:S1.Le S') (hst:St S' M w)=>Zj w hst si sn p (HP1.out.mono hS)
      generalize FV p=zs at *;repeat' ((apply KB ());first|apply sK ()|apply sG ()|(apply gK ();go_step)|(apply kc ();refine sc (cR _ hst) ?_;clear hst;rintro v w ⟨rfl,hst⟩)|(apply kc ();refine sc (cK _ hst) ?_;clear hst;rintro v w ⟨S2,hS2,rfl,hst⟩)|apply sX ()|fail)
      clear cR cK hz2 hz3 hz4;repeat' (first|(apply gK ();go_step)|(apply kc ();refine sc (cS _ hS2 hst) ?_;clear hst;rintro v w ⟨S3,ss,hS3,rfl,hz3,hst⟩)|apply sX ()|fail)
      have hszb:=HSZ.out rfl;have hszl:=HSL.out;have HB:=Lib.hid hszb;clear HSZ HSL cS hszb
      go_loopw [8,10] (fun u8 u10 wr=>∃ (i:Nat) (n:Int),i≤zs.length∧(1≤n∧n≤1024)∧u8=.int .i64 n∧u10=.int .i64 (i:Int)∧Hid (G7 (zs.drop i) n=G7 zs 1)∧St S3 (.box bx [.slice si.1 si.2.1 si.2.2,.slice sn.1 sn.2.1 sn.2.2,.int .i64 p.2.2.1,.int .i64 p.2.2.2.1] 87::M) wr) (fun _ v _=>zs.length - (intOf v).toNat)
      case atStart=>exact ⟨0,1,Nat.zero_le _,by omega,rfl,rfl,Lib.hid rfl,hst⟩
      case round =>
       clear hst;obtain ⟨i,n,hi4,hnb,rfl,rfl,HQ,hst⟩:=hrel;by_cases hlt4:i < zs.length
       ·have hq:=dD hnb (HB.out zs[i] (List.getElem_mem hlt4));have HQ2:=HQ.out;rw [Sm hlt4] at HQ2;by_cases hg:n * zs[i] > 1024
        ·rw [if_pos hg] at HQ2;have HE2:=HE.out;rw [← HQ2,if_pos rfl] at HE2;replace HE2:=Lib.hid HE2;clear HQ HQ2;repeat' (first|(with_reducible refine kB ?_;refine Ag hst (Q0 rfl rfl ⟨by omega,by omega⟩) ?_<;>(try refine nX ?_))|(apply gK ();go_step)|apply sX ()|(apply sN ();intro hI)|(apply sI ();intro v hp)|fail)
         go_ret;exact ⟨_,rfl,S3,hS1.trans (hS2.trans hS3),by rw [HE2.out];rfl,hst.sub⟩
        ·rw [if_neg hg] at HQ2;replace HQ2:=Lib.hid HQ2;clear HQ;repeat' (first|(with_reducible refine kB ?_;refine Ag hst (Q0 rfl rfl ⟨by omega,by omega⟩) ?_<;>(try refine nX ?_))|(apply gK ();go_step)|apply sX ()|(apply sN ();intro hI)|(apply sI ();intro v hp)|fail)
         go_roundw
         case rel=>exact ⟨i+1,_,by omega,⟨hq.1,by omega⟩,rfl,by go_num,HQ2,hst⟩
         case measure=>simp [intOf];omega
       ·have HQ2:=HQ.out;rw [List.drop_of_length_le (by omega),G7] at HQ2;have HE2:=HE.out;rw [← HQ2,if_neg (by decide)] at HE2;replace HE2:=Lib.hid HE2;clear HQ HQ2;repeat' (first|(apply gK ();go_step)|apply sX ()|fail)
        go_ret;exact ⟨_,rfl,S3,hS1.trans (hS2.trans hS3),by rw [HE2.out];rfl,hst.sub⟩
theorem Vg (s x:By) (r:List By) (i:Int):Fg s (x::r) i=if decide (x.b=s.b)=true then i else Fg s r (i+1):=by
 rw [Fg];by_cases h:x=s
 ·rw [if_pos h,if_pos (by rw [h];simp)]
 ·rw [if_neg h,if_neg (by rw [← IU];simpa using h)]
theorem Q1 {P:Program} {S:Ac} {M:List Chunk} {l:List Value} {T F:TypeId} {x:Operand} {zero:List Value} {bb:Nat} {v p:Value} {j k n:Nat} {c:List Value} {xs:List By} {y:By} (hx:Ai l x=p) (hp:Jb v p (j * 1)) (hk:M[k]? = some (.sl v F 1 n c)) (hR:RL S c xs)
  (hT:Ty P T false 1 zero bb) (hy:xs[j]? = some y):Qt P l (.load T x) S M (.string ⟨y.b.toArray⟩):=by
 obtain ⟨u,⟨cs,rfl,h,_⟩,q⟩:=BP (α:=By) hx hp hk hR hT hy;subst h;exact q
theorem SM {S M} (w:World) (so:Sv) (xs:List By) (co:List Value) (hC:RL S co xs) (hm:xs.length≤1000000) (hst:St S (.sl (Ar so) 9 1 xs.length co::M) w) (s:By) :
  Ad Tryz.prog 105 [Ar so,.string ⟨s.b.toArray⟩] w fun v w'=>v=.int .i64 (Fg s xs 0)∧St S (.sl (Ar so) 9 1 xs.length co::M) w':=by
 unfold Ad;have hone:=Bh (k:=0) hst rfl;obtain ⟨a0,n0,k0⟩:=so;obtain ⟨ad,cap,hso⟩:=sl_formk (k:=0) hst rfl;cases hso;obtain ⟨R,hR⟩:∃ R,Fg s xs 0=R:=⟨_,rfl⟩
 rw [hR];have HR:=Lib.hid hR;clear hR;go_enter Tryz.func105,Tryz.ntmps105;repeat' (first|(apply gK ();go_step)|fail)
 go_loopw [5] (fun u5 wr=>∃ (i:Nat),i≤xs.length∧u5=.int .i64 (i:Int)∧Hid (Fg s (xs.drop i) (i:Int)=R)∧St S (.sl (.slice a0 xs.length k0) 9 1 xs.length co::M) wr) (fun v _=>xs.length - (intOf v).toNat)
 case atStart=>exact ⟨0,Nat.zero_le _,rfl,HR,hst⟩
 case round =>
  clear hst HR;obtain ⟨i,hi2,rfl,HR,hst⟩:=hrel;by_cases hlt:i < xs.length
  ·have HN:=HR.out;rw [List.drop_eq_getElem_cons hlt,Vg] at HN;obtain ⟨z,hz⟩:∃ z,decide (xs[i].b=s.b)=z:=⟨_,rfl⟩
   rw [hz] at HN;replace HN:=Lib.hid HN;clear HR;have gA:xs[i]? = some xs[i]:=List.getElem?_eq_getElem hlt
   cases z with
   | false =>
    repeat' (first|(with_reducible (refine An hst (Aq hst Ab SlIn.h rfl Aa Aa Af Af) ?_;rintro v12 hp12;simp only [Int.toNat_natCast] at hp12)<;>(try refine nX ?_))|(with_reducible (refine Ag hst (Q1 (j:=i) Ab hp12 SlIn.h hC Aa gA) ?_)<;>(try refine nX ?_))|(with_reducible refine kB ?_;refine Ag hst (Aw rfl rfl Aa hz) ?_<;>(try refine nX ?_))|(apply gK ();go_step)|apply sX ()|fail)
    apply VX ()
   | true =>
    repeat' (first|(with_reducible (refine An hst (Aq hst Ab SlIn.h rfl Aa Aa Af Af) ?_;rintro v12 hp12;simp only [Int.toNat_natCast] at hp12)<;>(try refine nX ?_))|(with_reducible (refine Ag hst (Q1 (j:=i) Ab hp12 SlIn.h hC Aa gA) ?_)<;>(try refine nX ?_))|(with_reducible refine kB ?_;refine Ag hst (Aw rfl rfl Aa hz) ?_<;>(try refine nX ?_))|(apply gK ();go_step)|apply sX ()|fail)
    go_ret;exact ⟨_,rfl,by rw [← HN.out];rfl,hst⟩
  ·have HN:=HR.out;rw [List.drop_of_length_le (by omega)] at HN;replace HN:=Lib.hid HN;repeat' (first|(apply gK ();go_step)|apply sX ()|fail)
   go_ret;exact ⟨_,rfl,by rw [← HN.out];rfl,hst⟩
theorem fG {S:Ac} {a b c:Int} (h1:Au a) (h2:Au b) (h3:Au c):RL S [.int .i64 a,.int .i64 b,.int .i64 c] ([(a,b,c,())]:List EY) :=
 RL.one_mk (Ay (cs:=[_]) ⟨rfl,h1⟩ (Ay (cs:=[_]) ⟨rfl,h2⟩ (Ay (cs:=[_]) ⟨rfl,h3⟩ Cf)))
abbrev DJ (S:Ac) (M:List Chunk) (xs:List EY) (v:Value) (w:World):Prop :=
 ∃ S' so co,S.Le S'∧v=Ar so∧RL S' co xs∧St S' (.sl (Ar so) 186 3 xs.length co::M) w
theorem KQ {S M} (w:World) (hst:St S M w) (op a b:Int) (h1:Au op) (h2:Au a) (h3:Au b) :
  Ad Tryz.prog 65 [.int .i64 op,.int .i64 a,.int .i64 b] w (DJ S M (i1 op a b)):=by
 unfold Ad;go_enter Tryz.func65,Tryz.ntmps65;repeat' (first|(apply gK ();go_step)|fail)
 refine AA (vs:=[.agg #[.int .i64 op,.int .i64 a,.int .i64 b]]) hst Aa Aa rfl rfl (by simp [Value.cells]) rfl (by omega) (by omega) ?_;clear hst;intro x w hst;(try refine nX ?_);repeat' (first|(apply gK ();go_step)|fail)
 obtain ⟨ay,cy,rfl⟩:=sl_formk (k:=0) hst rfl;go_ret;exact ⟨_,rfl,S,(ay,1,cy),[.int .i64 op,.int .i64 a,.int .i64 b],Ac.Le.refl S,rfl,fG h1 h2 h3,hst⟩
theorem YL {S M} (w:World) (hst:St S M w) (sl:Sv) (ls:List (List EY)) (hl:RSl S (Ar sl) ls) (hm:ls.length≤10) (hn:∀ x∈ls,x.length≤100000) :
  Ad Tryz.prog 107 [Ar sl] w (DJ S M ls.flatten):=by
 unfold Ad;obtain ⟨R,hR⟩:∃ R,ls.flatten=R:=⟨_,rfl⟩
 rw [hR];have HR:=Lib.hid hR;clear hR;have HN:=Lib.hid hn;clear hn;go_enter Tryz.func107,Tryz.ntmps107;replace hst:=hst.nil 186 3;repeat' (first|(apply gK ();go_step)|fail)
 go_loopw [3,4] (fun u3 u4 wr=>∃ (i n:Nat) (so:Sv) (co:List Value),i≤ls.length∧n≤100000 * i∧u3=Ar so∧u4=.int .i64 (i:Int)∧Hid (n=(ls.take i).flatten.length)∧RL S co (ls.take i).flatten∧St S (.sl (Ar so) 186 3 n co::M) wr) (fun _ v _=>ls.length - (intOf v).toNat)
 case atStart=>exact ⟨0,0,(none,0,0),[],Nat.zero_le _,by omega,rfl,rfl,Lib.hid rfl,RL.nil,hst⟩
 case round =>
  clear hst;obtain ⟨i,n,so,co,hi2,hnb,rfl,rfl,hnl,hC,hst⟩:=hrel;have hone:=Bh (k:=0) hst rfl;by_cases hlt:i < ls.length
  ·have hsn:Hid ((ls.take (i+1)).flatten=(ls.take i).flatten++ls[i]):=Lib.hid (by rw [List.take_succ_eq_append_getElem hlt,List.flatten_append];simp);have hxb:=HN.out ls[i] (List.getElem_mem hlt);repeat' (first|(apply gK ();go_step)|apply sX ()|(apply sL ();intro v hvl hv1)|(apply sI ();intro v hp)|fail)
   replace hvl:RSl S _ ls[i]:=hvl;refine A2 (α:=EY) (k:=0) hst Ab Ab SlIn.h hvl Aa Aa Aa (by omega) (by omega) (by decide) ?_;clear hst;intro x w d hd hst;(try refine nX ?_);obtain ⟨ay,cy,rfl⟩:=sl_formk (k:=0) hst rfl;repeat' (first|(apply gK ();go_step)|fail)
   go_roundw
   case rel=>exact ⟨i+1,n+ls[i].length,(ay,n+ls[i].length,cy),co++d,by omega,by omega,rfl,by go_num,Lib.hid (by rw [hsn.out,List.length_append,hnl.out]),by rw [hsn.out];exact hC.append hd,hst⟩
   case measure=>simp [intOf];omega
  ·obtain rfl:i=ls.length:=by omega
   rw [List.take_length,HR.out] at hC hnl;obtain rfl:=hnl.out;repeat' (first|(apply gK ();go_step)|apply sX ()|fail)
   go_ret;exact ⟨_,rfl,S,so,co,Ac.Le.refl S,rfl,hC,hst⟩
theorem St.swap2 {S:Ac} {M:List Chunk} {w:World} {a b:Chunk} (h:St S (a::b::M) w):St S (b::a::M) w:=h.move (k:=1) rfl
theorem OR {α:Type} [Rep α] {S:Ac} {v:Value} {xs:List α} (h:RSl S v xs) {i:Nat} (hi:i < xs.length):∃ cs,Rep.R S cs xs[i]:=by
 apply gH ()
theorem dT {S:Ac} {v:Value} {xs:List Ip} (h:RSl S v xs) {i:Nat} (hi:i < xs.length):xs[i].1.b.length≤maxLen:=by
 obtain ⟨cs,h⟩:=OR h hi;exact h.2.1.2
theorem dz {S:Ac} {v:Value} {xs:List Nd} (h:RSl S v xs) {i:Nat} (hi:i < xs.length):xs[i].2.2.1.b.length≤maxLen:=by
 obtain ⟨cs,h⟩:=OR h hi;exact h.2.2.2.2.2.1.2
def EM (o:List By) (i:Ip):List By:=Gq o i.1
def Ds (o:List By) (x:Nd):List By:=if x.1=11 then Gq o x.2.2.1 else o
theorem QB (p:Pg):DM p=p.2.1.foldl Ds (p.1.foldl EM []):=by
 unfold DM;rw [List.foldl_filter]
 congr 1
 funext o x
 unfold Ds;by_cases h:x.1=11<;>simp [h]
theorem P1 (o:List By) (s:By):o.length≤(Gq o s).length∧(Gq o s).length≤o.length+1:=by
 unfold Gq;split<;>simp
theorem LU:∀ (xs:List Ip) (o:List By),(xs.foldl EM o).length≤o.length+xs.length
 | [],o=>Nat.le_refl _
 | x::r,o=>by
  have h1:=LU r (EM o x);have h2:=(P1 o x.1).2;rw [List.foldl_cons];unfold EM at *;simp only [List.length_cons];omega
theorem P2:∀ (xs:List Nd) (o:List By),(xs.foldl Ds o).length≤o.length+xs.length
 | [],o=>Nat.le_refl _
 | x::r,o=>by
  have h1:=P2 r (Ds o x)
  have h2:(Ds o x).length≤o.length+1:=by
   unfold Ds;split
   ·exact (P1 o _).2
   ·omega
  rw [List.foldl_cons];simp only [List.length_cons];omega
theorem E0 (p:Pg):(DM p).length≤p.1.length+p.2.1.length:=by
 rw [QB];have h1:=P2 p.2.1 (p.1.foldl EM []);have h2:=LU p.1 [];simp only [List.length_nil] at h2;omega
theorem MA {α β:Type} (f:β→α→β) (b:β) {xs:List α} {i:Nat} (h:i < xs.length):(xs.take (i+1)).foldl f b=f ((xs.take i).foldl f b) xs[i]:=by
 rw [List.take_succ_eq_append_getElem h,List.foldl_append];rfl
theorem Rp (s:By):∀ (xs:List By) (i:Int),0≤i→-1≤Fg s xs i∧Fg s xs i < i+xs.length
 | [],i,h=>by unfold Fg;simp only [List.length_nil];omega
 | x::r,i,h=>by
  unfold Fg;have:=Rp s r (i+1) (by omega);simp only [List.length_cons];split<;>omega
theorem UG {S:Ac} {s:By} (h:s.b.length≤maxLen):RL S [.string ⟨s.b.toArray⟩] [s]:=RL.one_mk ⟨rfl,h⟩
theorem Tz {S M} (w:World) (hst:St S M w) (si sn:Sv) (p:Pg) (hp:Du S si sn p) :
  Ad Tryz.prog 104 [CR si sn p] w fun v w'=>∃ so co,v=Ar so∧RL S co (DM p)∧St S (.sl (Ar so) 9 1 (DM p).length co::M) w':=by
 unfold Ad;have hi:=hp.i;have hn:=hp.n;have hli:=hp.li;have hln:=hp.ln;obtain ⟨R,hR⟩:∃ R,DM p=R:=⟨_,rfl⟩
 rw [hR];rw [QB] at hR;have HR:=Lib.hid hR;have hA1:=LU;clear hR hp;generalize hxs:p.1=xs at *;generalize hns:p.2.1=ns at *;clear hxs hns;go_enter Tryz.func104,Tryz.ntmps104;replace hst:=hst.nil 9 1;repeat' (first|(apply gK ();go_step)|(apply sB ();clear hst;intro bx w hst)|fail)
 go_loopw [3,4] (fun u3 u4 wr=>∃ (i n:Nat) (so:Sv) (co:List Value),i≤xs.length∧n≤i∧u3=Ar so∧u4=.int .i64 (i:Int)∧Hid (n=((xs.take i).foldl EM []).length)∧RL S co ((xs.take i).foldl EM [])∧St S (.box bx [.slice si.1 si.2.1 si.2.2,.slice sn.1 sn.2.1 sn.2.2,.int .i64 p.2.2.1,.int .i64 p.2.2.2.1] 87::.sl (Ar so) 9 1 n co::M) wr) (fun _ v _=>xs.length - (intOf v).toNat)
 case atStart=>exact ⟨0,0,(none,0,0),[],Nat.zero_le _,by omega,rfl,rfl,Lib.hid rfl,RL.nil,hst⟩
 case round =>
  clear hst;obtain ⟨i,n,so,co,hi2,hnb,rfl,rfl,hnl,hC,hst⟩:=hrel;have hone:=Bh (k:=1) hst rfl;by_cases hlt:i < xs.length
  ·have hsn:Hid ((xs.take (i+1)).foldl EM []=Gq ((xs.take i).foldl EM []) xs[i].1):=Lib.hid (MA EM [] hlt);generalize (xs.take i).foldl EM []=os at *;obtain rfl:=hnl.out;have cI:=fun {M:List Chunk} (w:World) (hst:St S (.sl (Ar so) 9 1 os.length co::M) w)=>SM w so os co hC (by omega) hst xs[i].1
   obtain ⟨z,hz⟩:∃ z,decide (Fg xs[i].1 os 0 < 0)=z:=⟨_,rfl⟩
   have hsb:=dT hi hlt
   cases z with
   | true =>
    have hsq:Hid (Gq os xs[i].1=os++[xs[i].1]):=Lib.hid (if_pos (of_decide_eq_true hz));repeat' (first|apply sK ()|(apply gK ();go_step)|(apply kc ();refine sc (cI _ (St.swap2 hst)) ?_;clear hst;rintro v w ⟨rfl,hst⟩)|(with_reducible refine kL ?_;refine An hst (AL Ab Ak Aa) ?_;rintro v ⟨rfl,hs⟩<;>(try refine nX ?_))|apply sX ()|(apply sI ();intro v hp)|fail)
    replace hst:=St.swap2 hst;refine AA (vs:=[(.string ⟨xs[i].1.b.toArray⟩)]) hst Aa Aa rfl rfl (by simp [Value.cells]) rfl (by omega) (by omega) ?_;clear hst;intro u w hst;simp only [List.set_cons_succ,List.set_cons_zero,As,Ap,List.drop_succ_cons,List.drop_zero,List.take_succ_cons,List.take_zero,A0,Int.toNat_zero,Int.reduceToNat,Nat.mul_one,Nat.zero_add,Nat.add_zero,Nat.reduceMul,Nat.reduceAdd,Nat.zero_mul,Int.reduceSub,Int.reduceAdd,Int.reduceMul,Int.reduceNeg,Bool.not_true,Bool.not_false];refine AG (j:=0) hst Ab Ab SlIn.h rfl Aa Aa Aa (by simp [Value.cells,Value.oneCell']) (by omega) (by omega) (by decide) ?_;clear hst;intro v' w hst;simp only [List.set_cons_succ,List.set_cons_zero,As,Ap,List.drop_succ_cons,List.drop_zero,List.take_succ_cons,List.take_zero,A0,Int.toNat_zero,Int.reduceToNat,Nat.mul_one,Nat.zero_add,Nat.add_zero,Nat.reduceMul,Nat.reduceAdd,Nat.zero_mul,Int.reduceSub,Int.reduceAdd,Int.reduceMul,Int.reduceNeg,Bool.not_true,Bool.not_false];(try replace hst:=nH hst);replace hst:=hst.drop;obtain ⟨ay,cy,rfl⟩:=sl_formk (k:=1) hst rfl;(try refine nX ?_);repeat' (first|(apply gK ();go_step)|fail)
    go_roundw
    case rel=>exact ⟨i+1,os.length+1,(ay,os.length+1,cy),co++[.string ⟨xs[i].1.b.toArray⟩],by omega,by omega,rfl,by go_num,Lib.hid (by rw [hsn.out,hsq.out,List.length_append];rfl),by rw [hsn.out,hsq.out];exact hC.append (UG hsb),hst⟩
    case measure=>simp [intOf];omega
   | false =>
    have hsq:Hid (Gq os xs[i].1=os):=Lib.hid (if_neg (of_decide_eq_false hz));repeat' (first|apply sK ()|(apply gK ();go_step)|(apply kc ();refine sc (cI _ (St.swap2 hst)) ?_;clear hst;rintro v w ⟨rfl,hst⟩)|(with_reducible refine kL ?_;refine An hst (AL Ab Ak Aa) ?_;rintro v ⟨rfl,hs⟩<;>(try refine nX ?_))|apply sX ()|(apply sI ();intro v hp)|fail)
    go_roundw
    case rel=>exact ⟨i+1,os.length,so,co,by omega,by omega,rfl,by go_num,Lib.hid (by rw [hsn.out,hsq.out]),by rw [hsn.out,hsq.out];exact hC,St.swap2 hst⟩
    case measure=>simp [intOf];omega
  ·obtain rfl:i=xs.length:=by omega
   rw [List.take_length] at hC hnl;have hb1:=hA1 xs [];obtain ⟨O,hO⟩:∃ O,xs.foldl EM []=O:=⟨_,rfl⟩
   have HR2:Hid (ns.foldl Ds O=R):=Lib.hid (by rw [← hO];exact HR.out);rw [hO] at hC hnl hb1;simp only [List.length_nil] at hb1;clear hO HR hA1;obtain rfl:=hnl.out;repeat' (first|(apply gK ();go_step)|apply sX ()|fail)
   go_loopw [3,5] (fun u3 u5 wr=>∃ (i n:Nat) (so:Sv) (co:List Value),i≤ns.length∧n≤O.length+i∧u3=Ar so∧u5=.int .i64 (i:Int)∧Hid (n=((ns.take i).foldl Ds O).length)∧RL S co ((ns.take i).foldl Ds O)∧St S (.box bx [.slice si.1 si.2.1 si.2.2,.slice sn.1 sn.2.1 sn.2.2,.int .i64 p.2.2.1,.int .i64 p.2.2.2.1] 87::.sl (Ar so) 9 1 n co::M) wr) (fun _ v _=>ns.length - (intOf v).toNat)
   case atStart=>exact ⟨0,O.length,so,co,Nat.zero_le _,by omega,rfl,rfl,Lib.hid rfl,hC,hst⟩
   case round =>
    clear hst hC;rename_i so0 co0 hone0;obtain ⟨i,n,so,co,hi3,hnb2,rfl,rfl,hnl,hC,hst⟩:=hrel;have hone:=Bh (k:=1) hst rfl;by_cases hlt2:i < ns.length
    ·have hsn:Hid ((ns.take (i+1)).foldl Ds O=Ds ((ns.take i).foldl Ds O) ns[i]):=Lib.hid (MA Ds O hlt2);generalize (ns.take i).foldl Ds O=os at *;obtain rfl:=hnl.out;have cI:=fun {M:List Chunk} (w:World) (hst:St S (.sl (Ar so) 9 1 os.length co::M) w)=>SM w so os co hC (by omega) hst ns[i].2.2.1
     obtain ⟨z,hz⟩:∃ z,decide (Fg ns[i].2.2.1 os 0 < 0)=z:=⟨_,rfl⟩
     obtain ⟨z1,hz1⟩:∃ z,(ns[i].1 == 11)=z:=⟨_,rfl⟩
     have hsb:=dz hn hlt2
     cases z1 with
     | false =>
      have hsq:Hid (Ds os ns[i]=os):=Lib.hid (if_neg (beq_eq_false_iff_ne.1 hz1));repeat' (first|apply sK ()|apply sG ()|(apply gK ();go_step)|apply sX ()|(apply sN ();intro hI)|(apply sI ();intro v hp)|fail)
      go_roundw
      case rel=>exact ⟨i+1,os.length,so,co,by omega,by omega,rfl,by go_num,Lib.hid (by rw [hsn.out,hsq.out]),by rw [hsn.out,hsq.out];exact hC,hst⟩
      case measure=>simp [intOf];omega
     | true =>
      have hsq0:Hid (Ds os ns[i]=Gq os ns[i].2.2.1):=Lib.hid (if_pos (beq_iff_eq.1 hz1))
      cases z with
      | true =>
       have hsq:Hid (Gq os ns[i].2.2.1=os++[ns[i].2.2.1]):=Lib.hid (if_pos (of_decide_eq_true hz));repeat' (first|apply sK ()|apply sG ()|(apply gK ();go_step)|(apply kc ();refine sc (cI _ (St.swap2 hst)) ?_;clear hst;rintro v w ⟨rfl,hst⟩)|(with_reducible refine kL ?_;refine An hst (AL Ab Ak Aa) ?_;rintro v ⟨rfl,hs⟩<;>(try refine nX ?_))|apply sX ()|(apply sN ();intro hI)|(apply sI ();intro v hp)|fail)
       replace hst:=St.swap2 hst;refine AA (vs:=[(.string ⟨ns[i].2.2.1.b.toArray⟩)]) hst Aa Aa rfl rfl (by simp [Value.cells]) rfl (by omega) (by omega) ?_;clear hst;intro u w hst;simp only [List.set_cons_succ,List.set_cons_zero,As,Ap,List.drop_succ_cons,List.drop_zero,List.take_succ_cons,List.take_zero,A0,Int.toNat_zero,Int.reduceToNat,Nat.mul_one,Nat.zero_add,Nat.add_zero,Nat.reduceMul,Nat.reduceAdd,Nat.zero_mul,Int.reduceSub,Int.reduceAdd,Int.reduceMul,Int.reduceNeg,Bool.not_true,Bool.not_false];refine AG (j:=0) hst Ab Ab SlIn.h rfl Aa Aa Aa (by simp [Value.cells,Value.oneCell']) (by omega) (by omega) (by decide) ?_;clear hst;intro v' w hst;simp only [List.set_cons_succ,List.set_cons_zero,As,Ap,List.drop_succ_cons,List.drop_zero,List.take_succ_cons,List.take_zero,A0,Int.toNat_zero,Int.reduceToNat,Nat.mul_one,Nat.zero_add,Nat.add_zero,Nat.reduceMul,Nat.reduceAdd,Nat.zero_mul,Int.reduceSub,Int.reduceAdd,Int.reduceMul,Int.reduceNeg,Bool.not_true,Bool.not_false];(try replace hst:=nH hst);replace hst:=hst.drop;obtain ⟨ay,cy,rfl⟩:=sl_formk (k:=1) hst rfl;(try refine nX ?_);repeat' (first|(apply gK ();go_step)|fail)
       go_roundw
       case rel=>exact ⟨i+1,os.length+1,(ay,os.length+1,cy),co++[.string ⟨ns[i].2.2.1.b.toArray⟩],by omega,by omega,rfl,by go_num,Lib.hid (by rw [hsn.out,hsq0.out,hsq.out,List.length_append];rfl),by rw [hsn.out,hsq0.out,hsq.out];exact hC.append (UG hsb),hst⟩
       case measure=>simp [intOf];omega
      | false =>
       have hsq:Hid (Gq os ns[i].2.2.1=os):=Lib.hid (if_neg (of_decide_eq_false hz));repeat' (first|apply sK ()|apply sG ()|(apply gK ();go_step)|(apply kc ();refine sc (cI _ (St.swap2 hst)) ?_;clear hst;rintro v w ⟨rfl,hst⟩)|(with_reducible refine kL ?_;refine An hst (AL Ab Ak Aa) ?_;rintro v ⟨rfl,hs⟩<;>(try refine nX ?_))|apply sX ()|(apply sN ();intro hI)|(apply sI ();intro v hp)|fail)
       go_roundw
       case rel=>exact ⟨i+1,os.length,so,co,by omega,by omega,rfl,by go_num,Lib.hid (by rw [hsn.out,hsq0.out,hsq.out]),by rw [hsn.out,hsq0.out,hsq.out];exact hC,St.swap2 hst⟩
       case measure=>simp [intOf];omega
    ·obtain rfl:i=ns.length:=by omega
     rw [List.take_length,HR2.out] at hC hnl;obtain rfl:=hnl.out;repeat' (first|(apply gK ();go_step)|apply sX ()|fail)
     go_ret;exact ⟨_,rfl,so,co,rfl,hC,hst.drop⟩
theorem Yn (p:Pg) {k:Nat} (h:k < p.2.1.length):DP p (k+1)=DP p k+(if p.2.1[k].1=13 then 1 else 0):=by
 unfold DP;rw [List.take_succ_eq_append_getElem h,List.filter_append,List.length_append];by_cases h2:p.2.1[k].1=13<;>simp [h2]<;>omega
theorem VJ (p:Pg) (k:Nat) (hi:p.1.length≤100000) (hn:p.2.1.length≤100000):0≤DP p k∧DP p k≤300000:=by
 unfold DP;have h1:=E0 p;have h2:((p.2.1.take k).filter fun x=>decide (x.1=13)).length≤p.2.1.length:=Nat.le_trans (List.length_filter_le _ _) (by rw [List.length_take];omega);omega
theorem VF {S M} (w:World) (hst:St S M w) (si sn:Sv) (p:Pg) (hp:Du S si sn p) (k:Nat) (hk:k≤p.2.1.length) :
  Ad Tryz.prog 63 [CR si sn p,.int .i64 (k:Int)] w fun v w'=>v=.int .i64 (DP p k)∧St S M w':=by
 unfold Ad;have hn:=hp.n;have hln:=hp.ln;have hlv:=E0 p;have hli:=hp.li;have hb:=fun j=>VJ p j hp.li hp.ln
 have hcs:=fun {j:Nat} (h:j < p.2.1.length)=>Yn p h
 have hc0:DP p 0=((DM p).length:Int):=by unfold DP;simp
 have cV:=fun {M:List Chunk} (w:World) (hst:St S M w)=>Tz w hst si sn p hp
 generalize hns:p.2.1=ns at *;generalize DM p=vs at *;generalize hcn:DP p=cn at *;have HP:=Lib.hid hp;have HB:=Lib.hid hb;have HS:=Lib.hid (fun j h=>@hcs j h);clear hp hns hcn hb hcs;go_enter Tryz.func63,Tryz.ntmps63;repeat' (first|(apply gK ();go_step)|(apply kc ();refine sc (cV _ hst) ?_;clear hst;rintro v w ⟨so,co,rfl,hC,hst⟩)|apply sX ()|(apply sB ();clear hst;intro bx w hst)|fail)
 replace hst:=hst.drop
 go_loopw [5,6] (fun u5 u6 wr=>∃ (i:Nat),i≤k∧u5=.int .i64 (cn i)∧u6=.int .i64 (i:Int)∧St S (.box bx [.slice si.1 si.2.1 si.2.2,.slice sn.1 sn.2.1 sn.2.2,.int .i64 p.2.2.1,.int .i64 p.2.2.2.1] 87::M) wr) (fun _ v _=>k - (intOf v).toNat)
 case atStart=>exact ⟨0,Nat.zero_le _,by rw [hc0],rfl,hst⟩
 case round =>
  clear hst;obtain ⟨i,hi2,rfl,rfl,hst⟩:=hrel;by_cases hlt:i < k
  ·have hx:=HB.out i;have hlt2:i < ns.length:=by omega
   have hs:=Lib.hid (HS.out i hlt2);generalize cn i=c at *;obtain ⟨z,hz⟩:∃ z,(ns[i].1 == 13)=z:=⟨_,rfl⟩
   cases z with
   | true =>
    have hs2:=Lib.hid (hs.out.trans (congrArg (c + ·) (if_pos (beq_iff_eq.1 hz))));repeat' (first|apply sK ()|(apply gK ();go_step)|apply sX ()|(apply sN ();intro hI)|(apply sI ();intro v hp)|fail)
    go_roundw
    case rel=>exact ⟨i+1,by omega,by rw [hs2.out],by go_num,hst⟩
    case measure=>simp [intOf];omega
   | false =>
    have hs2:=Lib.hid (hs.out.trans (congrArg (c + ·) (if_neg (beq_eq_false_iff_ne.1 hz))));repeat' (first|apply sK ()|(apply gK ();go_step)|apply sX ()|(apply sN ();intro hI)|(apply sI ();intro v hp)|fail)
    go_roundw
    case rel=>exact ⟨i+1,by omega,by rw [hs2.out,Int.add_zero],by go_num,hst⟩
    case measure=>simp [intOf];omega
  ·obtain rfl:i=k:=by omega
   repeat' (first|(apply gK ();go_step)|fail)
   go_ret;exact ⟨_,rfl,rfl,hst.drop⟩
end Go.Proofs.YtmmbidoldegemaaGreatDoor
