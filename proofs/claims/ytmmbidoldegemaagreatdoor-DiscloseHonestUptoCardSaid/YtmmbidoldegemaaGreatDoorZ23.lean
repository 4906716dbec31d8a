/- Part 24 of a proof; no conditions. -/
import Derived.Test.YtmmbidoldegemaaGreatDoorZ22
set_option linter.all false
set_option maxRecDepth 8000
set_option maxHeartbeats 8000000
namespace Go.Proofs.YtmmbidoldegemaaGreatDoor
open Go.RowKit Go.Sl Go.Proofs.Tryz
abbrev Q8 (S:Ad) (M:List J) (r:Int) (v:Value) (w:World):Prop:=∃ S',S.Le S'∧v=.int .i64 r∧St S' M w
theorem ZF {S M} (w) (V:St S M w) (si sn p) (L:Cm S si sn p) (hf:CV p=true):
  Ac prog 70 [Bo si sn p] w (Q8 S M (C9 (Bf p.2.1 (p.2.1.length+1) p.2.2.1) 1)):=by
 unfold Ac;have hw:=LK hf;have cF:=fun {M} w (V:St S M w)=>QA w V si sn p L
 rw [hf] at cF;have hrt:=hw.rt;have hn0:=hw.n0
 have cC:∀ {S':Ad} {M:List J} (w:World) (hS:S.Le S') (V:St S' M w),Ac prog 114 [Bo si sn p,.int .i64 p.2.2.1] w fun v w'=>v=.int .i64 (Bf p.2.1 (p.2.1.length+1) p.2.2.1)∧St S' M w':=fun w hS V=>by
  rw [show p.2.2.1=((p.2.1.length - 1:Nat):Int) by omega];have:=WQ p (p.2.1.length+1) w si sn (p.2.1.length - 1) V (L.mono hS) hw (by omega) (by omega);rw [show (Bo si sn p)=Bo si sn p from rfl] at this
  simpa [show p.2.2.1=((p.2.1.length - 1:Nat):Int) by omega] using this
 have hb:=D8 p.2.1 (p.2.1.length+1) p.2.2.1;generalize Bf p.2.1 (p.2.1.length+1) p.2.2.1=t at *;clear hrt hw hf;go_enter func70,ntmps70;repeat' (first|(apply O ();go_step)|(apply kc ();refine sc (cF _ V) ?_;clear V;rintro v w ⟨S1,hS1,rfl,V⟩)|(apply kc ();refine sc (cC _ hS1 V) ?_;clear V;rintro v w ⟨rfl,V⟩)|(apply kc ();refine sc (Fm _ V t 1 (by omega) (by omega)) ?_;clear V;rintro v w ⟨rfl,V⟩)|apply sX ()|(apply sB ();clear V;intro bx w V)|fail)
 go_ret;exact ⟨_,rfl,S1,hS1,rfl,V.sub⟩
theorem SK {p} (h:CV p=false):BH p=1:=by unfold BH;simp only;rw [if_pos h]
theorem dU {p} (h:CV p=true) (h2:FD p=false):BH p=4:=by unfold BH;simp only;rw [if_neg (by rw [h];decide),if_pos h2]
theorem dT {p} (h:CV p=true) (h2:FD p=true) (h3:p.2.1.all (A1 p (p.2.1.length+1))=false):BH p=5:=by
 unfold BH;simp only;rw [if_neg (by rw [h];decide),if_neg (by rw [h2];decide),if_pos h3]
theorem dV {p} (h:CV p=true) (h2:FD p=true) (h3:p.2.1.all (A1 p (p.2.1.length+1))=true) (h4:G3 p=false∨p.1.length > 6∨p.2.2.2.1 > 8∨C9 (Bf p.2.1 (p.2.1.length+1) p.2.2.1) 1 > 3000):BH p=2:=by
 unfold BH;simp only;rw [if_neg (by rw [h];decide),if_neg (by rw [h2];decide),if_neg (by rw [h3];decide),if_pos h4]
theorem dS {p} (h:CV p=true) (h2:FD p=true) (h3:p.2.1.all (A1 p (p.2.1.length+1))=true) (h4:¬ (G3 p=false∨p.1.length > 6∨p.2.2.2.1 > 8∨C9 (Bf p.2.1 (p.2.1.length+1) p.2.2.1) 1 > 3000)):BH p=if Ig (Gv p) 1=false then 2 else 0:=by
 unfold BH;simp only;rw [if_neg (by rw [h];decide),if_neg (by rw [h2];decide),if_neg (by rw [h3];decide),if_neg h4]
theorem X4 {p} (hf:CV p=true) (hr:G3 p=true):∀ s∈Gv p,1≤s∧s≤1024:=by
 intro s hs;rw [Mn] at hs;obtain ⟨i,hi,rfl⟩:=List.mem_map.1 hs
 have hk:¬ (i.2.1 < 1∨i.2.1 > 4):=by
  intro hb;have:p.1.any (fun i=>decide (i.2.1 < 1∨i.2.1 > 4))=true:=List.any_eq_true.2 ⟨i,hi,decide_eq_true hb⟩;unfold CV at hf;simp only at hf;rw [this] at hf;split at hf
  ·cases hf
  ·split at hf
   ·cases hf
   ·simp at hf
 unfold G3 at hr;have h2:=List.all_eq_true.1 (Bool.and_eq_true_iff.1 hr).2 i hi;simp only [Bool.not_eq_true',Bool.or_eq_false_iff,decide_eq_false_iff_not] at h2;unfold OF;split<;>omega
theorem TH {zs:List Int} {i} (h n):Ig (zs.drop i) n=if n * zs[i] > 1024 then false else Ig (zs.drop (i+1)) (n * zs[i]):=by
 rw [List.drop_eq_getElem_cons h,Ig]
theorem fO {n z:Int} (hn:1≤n∧n≤1024) (hz:1≤z∧z≤1024):1≤n * z∧n * z≤1048576:=by
 have h1:0 < n * z:=Int.mul_pos (by omega) (by omega);have h2:n * z≤1024 * 1024:=Int.mul_le_mul hn.2 hz.2 (by omega) (by omega);omega
theorem Qd {S M} (w) (V:St S M w) (si sn p) (L:Cm S si sn p):
  Ac prog 37 [Bo si sn p] w (Q8 S M (BH p)):=by
 unfold Ac;have cF:=fun {M} w (V:St S M w)=>QA w V si sn p L
 cases hf:CV p with
 | false =>
  rw [hf] at cF;have HR:=Lib.hid (SK hf);clear hf;go_enter func37,ntmps37;repeat' (first|(apply O ();go_step)|(apply kc ();refine sc (cF _ V) ?_;clear V;rintro v w ⟨S1,hS1,rfl,V⟩)|apply sX ()|(apply sB ();clear V;intro bx w V)|fail)
  go_ret;exact ⟨_,rfl,S1,hS1,by rw [HR.out];rfl,V.sub⟩
 | true =>
  rw [hf] at cF;have cN:=fun {S':Ad} {M:List J} (w:World) (hS:S.Le S') (V:St S' M w)=>cQ w V si sn p (L.mono hS)
  cases hn:FD p with
  | false =>
   rw [hn] at cN;have HR:=Lib.hid (dU hf hn);clear hf hn;go_enter func37,ntmps37;repeat' (first|(apply O ();go_step)|(apply kc ();refine sc (cF _ V) ?_;clear V;rintro v w ⟨S1,hS1,rfl,V⟩)|(apply kc ();refine sc (cN _ hS1 V) ?_;clear V;rintro v w ⟨rfl,V⟩)|apply sX ()|(apply sB ();clear V;intro bx w V)|fail)
   go_ret;exact ⟨_,rfl,S1,hS1,by rw [HR.out];rfl,V.sub⟩
  | true =>
   rw [hn] at cN;have hw:=LK hf;have hnm:=Y0 hn;have hln:=L.ln;have C5:=fun h=>Lib.hid (dT hf hn h)
   have C2:=fun h3 h4=>Lib.hid (dV hf hn h3 h4)
   have CE:=fun h3 h4=>Lib.hid (dS hf hn h3 h4)
   have HF:=Lib.hid hf;obtain ⟨R,hR⟩:∃ R,BH p=R:=⟨_,rfl⟩
   rw [hR] at C5 C2 CE;rw [hR];have HP:=Lib.hid L;have HW:=Lib.hid hw;have HNM:=Lib.hid hnm;clear hR hf hn hw hnm;go_enter func37,ntmps37;repeat' ((apply ZZ 7);first|(apply O ();go_step)|(apply kc ();refine sc (cF _ V) ?_;clear V;rintro v w ⟨S1,hS1,rfl,V⟩)|(apply kc ();refine sc (cN _ hS1 V) ?_;clear V;rintro v w ⟨rfl,V⟩)|apply sX ()|(apply sB ();clear V;intro bx w V)|fail)
   have hp1:=L.mono hS1;have hn1:=hp1.n;have hi1:=hp1.i;have HP1:=Lib.hid hp1;clear cF cN L hp1;repeat' (first|(apply O ();go_step)|fail)
   go_loopw [5,6] (fun u5 _ wr=>∃ (i:Nat),i≤p.2.1.length∧u5=.int .i64 (i:Int)∧Hid ((p.2.1.take i).all (A1 p (p.2.1.length+1))=true)∧St S1 (.box bx [.slice si.1 si.2.1 si.2.2,.slice sn.1 sn.2.1 sn.2.2,.int .i64 p.2.2.1,.int .i64 p.2.2.2.1] 87::M) wr) (fun v _ _=>p.2.1.length - (intOf v).toNat)
   case atStart=>exact ⟨0,Nat.zero_le _,rfl,Lib.hid rfl,V⟩
   case round =>
    clear V;obtain ⟨i,hi2,rfl,HA,V⟩:=hrel;by_cases hlt:i < p.2.1.length
    ·have hnx:=Lib.hid (MK (A1 p (p.2.1.length+1)) p.2.1 hlt);have cT:=fun {M} w (V:St S1 M w)=>aM (f:=p.2.1.length+1) V HP1.out HW.out HNM.out hlt (Nat.le_refl _)
     cases hz:A1 p (p.2.1.length+1) p.2.1[i] with
     | false =>
      have HE:=C5 (Q4 (q:=A1 p (p.2.1.length+1)) hlt hz);rw [hz] at cT;clear hz;repeat' (first|(apply O ();go_step)|(apply kc ();refine sc (cT _ V) ?_;clear V;rintro v w ⟨rfl,V⟩)|apply sX ()|fail)
      go_ret;exact ⟨_,rfl,S1,hS1,by rw [HE.out];rfl,V.sub⟩
     | true =>
      rw [hz] at cT;have HZ:=Lib.hid hz;clear hz;repeat' (first|(apply O ();go_step)|(apply kc ();refine sc (cT _ V) ?_;clear V;rintro v w ⟨rfl,V⟩)|apply sX ()|fail)
      go_roundw
      case rel=>exact ⟨i+1,by omega,by go_num,Lib.hid (by rw [hnx.out,HA.out,HZ.out];rfl),V⟩
      case measure=>simp [intOf];omega
    ·have HA2:=HA.out;rw [List.take_of_length_le (by omega)] at HA2;have D2:=C2 HA2;have DE:=CE HA2;have cR:=fun {M} w (V:St S1 M w)=>Yy w V si sn p HP1.out
     have cK:=fun {M} w (V:St S1 M w)=>ZF w V si sn p HP1.out HF.out
     have HSZ:Hid (G3 p=true→∀ s∈Gv p,1≤s∧s≤1024):=Lib.hid (X4 HF.out);have hcb:=DG (D8 p.2.1 (p.2.1.length+1) p.2.2.1).1 (show (0:Int)≤1 by omega);generalize C9 (Bf p.2.1 (p.2.1.length+1) p.2.2.1) 1=t at *;generalize G3 p=z1 at *;obtain ⟨z2,hz2⟩:∃ z,decide ((p.1.length:Int) > 6)=z:=⟨_,rfl⟩
     obtain ⟨z3,hz3⟩:∃ z,decide (p.2.2.2.1 > 8)=z:=⟨_,rfl⟩
     obtain ⟨z4,hz4⟩:∃ z,decide (t > 3000)=z:=⟨_,rfl⟩
     have hc:(z1=false∨p.1.length > 6∨p.2.2.2.1 > 8∨t > 3000)↔(!z1 || (z2 || (z3 || z4)))=true:=by
      rw [← hz2,← hz3,← hz4];simp only [Bool.or_eq_true,Bool.not_eq_true',decide_eq_true_eq];constructor
      ·rintro (h|h|h|h)
       ·exact .inl h
       ·exact .inr (.inl (by omega))
       ·exact .inr (.inr (.inl h))
       ·exact .inr (.inr (.inr h))
      ·rintro (h|h|h|h)
       ·exact .inl h
       ·exact .inr (.inl (by omega))
       ·exact .inr (.inr (.inl h))
       ·exact .inr (.inr (.inr h))
     simp only [hc] at D2 DE;clear hc HA2 C5 C2 CE HA;have kz:z1=false∨(z1=true∧z2=true)∨(z1=true∧z2=false∧z3=true)∨(z1=true∧z2=false∧z3=false∧z4=true)∨(z1=true∧z2=false∧z3=false∧z4=false):=by cases z1<;>cases z2<;>cases z3<;>cases z4<;>simp
     rcases kz with rfl|⟨rfl,rfl⟩|⟨rfl,rfl,rfl⟩|⟨rfl,rfl,rfl,rfl⟩|⟨rfl,rfl,rfl,rfl⟩
     ·have HE:=D2 (by simp);clear D2 DE;repeat' (first|go_skip|(apply O ();go_step)|(apply kc ();refine sc (cR _ V) ?_;clear V;rintro v w ⟨rfl,V⟩)|apply sX ()|fail)
      go_ret;exact ⟨_,rfl,S1,hS1,by rw [HE.out];rfl,V.sub⟩
     ·have HE:=D2 (by simp);clear D2 DE;apply jP ()
     ·have HE:=D2 (by simp);clear D2 DE;apply jP ()
     ·have HE:=D2 (by simp);clear D2 DE;repeat' (first|apply sK ()|apply sG ()|(apply O ();go_step)|(apply kc ();refine sc (cR _ V) ?_;clear V;rintro v w ⟨rfl,V⟩)|(apply kc ();refine sc (cK _ V) ?_;clear V;rintro v w ⟨S2,hS2,rfl,V⟩)|apply sX ()|fail)
      go_ret;exact ⟨_,rfl,S2,hS1.trans hS2,by rw [HE.out];rfl,V.sub⟩
     ·have HE:=DE (by simp);clear D2 DE;have HSL:Hid ((Gv p).length≤100000):=Lib.hid (by rw [Mn,List.length_map];exact HP1.out.li);have cS:=fun {S':Ad} {M:List J} (w:World) (hS:S1.Le S') (V:St S' M w)=>aZ w V si sn p (HP1.out.mono hS)
      generalize Gv p=zs at *;repeat' ((apply ZZ 17);first|apply sK ()|apply sG ()|(apply O ();go_step)|(apply kc ();refine sc (cR _ V) ?_;clear V;rintro v w ⟨rfl,V⟩)|(apply kc ();refine sc (cK _ V) ?_;clear V;rintro v w ⟨S2,hS2,rfl,V⟩)|apply sX ()|fail)
      clear cR cK hz2 hz3 hz4;repeat' (first|(apply O ();go_step)|(apply kc ();refine sc (cS _ hS2 V) ?_;clear V;rintro v w ⟨S3,ss,hS3,rfl,hz3,V⟩)|apply sX ()|fail)
      have hszb:=HSZ.out rfl;have hszl:=HSL.out;have HB:=Lib.hid hszb;clear HSZ HSL cS hszb
      go_loopw [8,10] (fun u8 u10 wr=>∃ (i:Nat) (n:Int),i≤zs.length∧(1≤n∧n≤1024)∧u8=.int .i64 n∧u10=.int .i64 (i:Int)∧Hid (Ig (zs.drop i) n=Ig zs 1)∧St S3 (.box bx [.slice si.1 si.2.1 si.2.2,.slice sn.1 sn.2.1 sn.2.2,.int .i64 p.2.2.1,.int .i64 p.2.2.2.1] 87::M) wr) (fun _ v _=>zs.length - (intOf v).toNat)
      case atStart=>exact ⟨0,1,Nat.zero_le _,by omega,rfl,rfl,Lib.hid rfl,V⟩
      case round =>
       clear V;obtain ⟨i,n,hi4,hnb,rfl,rfl,HQ,V⟩:=hrel;by_cases hlt4:i < zs.length
       ·have hq:=fO hnb (HB.out zs[i] (List.getElem_mem hlt4));have HQ2:=HQ.out;rw [TH hlt4] at HQ2;by_cases hg:n * zs[i] > 1024
        ·rw [if_pos hg] at HQ2;have HE2:=HE.out;rw [← HQ2,if_pos rfl] at HE2;replace HE2:=Lib.hid HE2;clear HQ HQ2;repeat' (first|(apply tB ();refine Ag V (R6 rfl rfl ⟨by omega,by omega⟩) ?_<;>apply nW ())|(apply O ();go_step)|apply sX ()|(apply sN ();intro hI)|(apply sI ();intro v L)|fail)
         go_ret;exact ⟨_,rfl,S3,hS1.trans (hS2.trans hS3),by rw [HE2.out];rfl,V.sub⟩
        ·rw [if_neg hg] at HQ2;replace HQ2:=Lib.hid HQ2;clear HQ;repeat' (first|(apply tB ();refine Ag V (R6 rfl rfl ⟨by omega,by omega⟩) ?_<;>apply nW ())|(apply O ();go_step)|apply sX ()|(apply sN ();intro hI)|(apply sI ();intro v L)|fail)
         go_roundw
         case rel=>exact ⟨i+1,_,by omega,⟨hq.1,by omega⟩,rfl,by go_num,HQ2,V⟩
         case measure=>simp [intOf];omega
       ·have HQ2:=HQ.out;rw [List.drop_of_length_le (by omega),Ig] at HQ2;have HE2:=HE.out;rw [← HQ2,if_neg (by decide)] at HE2;replace HE2:=Lib.hid HE2;clear HQ HQ2;repeat' (first|(apply O ();go_step)|apply sX ()|fail)
        go_ret;exact ⟨_,rfl,S3,hS1.trans (hS2.trans hS3),by rw [HE2.out];rfl,V.sub⟩
theorem Wq (s x r i):Fo s (x::r) i=if decide (x.b=s.b)=true then i else Fo s r (i+1):=by
 rw [Fo];by_cases h:x=s
 ·rw [if_pos h,if_pos (by rw [h];simp)]
 ·rw [if_neg h,if_neg (by rw [← JG];simpa using h)]
theorem R7 {P S M l T F x zero bb v p} {j k n:Nat} {c} {xs:List Cv} {y} (hx:Ai l x=p) (L:JY v p (j * 1)) (hk:M[k]? = some (.sl v F 1 n c)) (hR:RL S c xs) (hT:Ty P T false 1 zero bb) (hy:xs[j]? = some y):Qt P l (.load T x) S M (.string ⟨y.b.toArray⟩):=by
 obtain ⟨u,⟨cs,rfl,h,_⟩,q⟩:=BZ (α:=Cv) hx L hk hR hT hy;subst h;exact q
theorem Pw {S M} (w so xs co) (hC:RL S co xs) (hm:xs.length≤1000000) (V:St S (.sl (Ar so) 9 1 xs.length co::M) w) (s):
  Ac prog 105 [Ar so,.string ⟨s.b.toArray⟩] w fun v w'=>v=.int .i64 (Fo s xs 0)∧St S (.sl (Ar so) 9 1 xs.length co::M) w':=by
 unfold Ac;have hone:=BE (k:=0) V rfl;obtain ⟨a0,n0,k0⟩:=so;obtain ⟨ad,cap,hso⟩:=Go.Sl.sl_formk (k:=0) V rfl;cases hso;obtain ⟨R,hR⟩:∃ R,Fo s xs 0=R:=⟨_,rfl⟩
 rw [hR];have HR:=Lib.hid hR;clear hR;go_enter func105,ntmps105;repeat' (first|(apply O ();go_step)|fail)
 go_loopw [5] (fun u5 wr=>∃ (i:Nat),i≤xs.length∧u5=.int .i64 (i:Int)∧Hid (Fo s (xs.drop i) (i:Int)=R)∧St S (.sl (.slice a0 xs.length k0) 9 1 xs.length co::M) wr) (fun v _=>xs.length - (intOf v).toNat)
 case atStart=>exact ⟨0,Nat.zero_le _,rfl,HR,V⟩
 case round =>
  clear V HR;obtain ⟨i,hi2,rfl,HR,V⟩:=hrel;by_cases hlt:i < xs.length
  ·have HN:=HR.out;rw [List.drop_eq_getElem_cons hlt,Wq] at HN;obtain ⟨z,hz⟩:∃ z,decide (xs[i].b=s.b)=z:=⟨_,rfl⟩
   rw [hz] at HN;replace HN:=Lib.hid HN;clear HR;have gA:xs[i]? = some xs[i]:=List.getElem?_eq_getElem hlt
   cases z with
   | false =>
    repeat' (first|(with_reducible (refine An V (Ao V X SlIn.h rfl Y Y Af Af) ?_;rintro v12 hp12;simp only [Int.toNat_natCast] at hp12)<;>apply nW ())|(with_reducible (refine Ag V (R7 (j:=i) X hp12 SlIn.h hC Y gA) ?_)<;>apply nW ())|(apply tB ();refine Ag V (AA rfl rfl Y hz) ?_<;>apply nW ())|(apply O ();go_step)|apply sX ()|fail)
    apply SN ()
   | true =>
    repeat' (first|(with_reducible (refine An V (Ao V X SlIn.h rfl Y Y Af Af) ?_;rintro v12 hp12;simp only [Int.toNat_natCast] at hp12)<;>apply nW ())|(with_reducible (refine Ag V (R7 (j:=i) X hp12 SlIn.h hC Y gA) ?_)<;>apply nW ())|(apply tB ();refine Ag V (AA rfl rfl Y hz) ?_<;>apply nW ())|(apply O ();go_step)|apply sX ()|fail)
    go_ret;exact ⟨_,rfl,by rw [← HN.out];rfl,V⟩
  ·have HN:=HR.out;rw [List.drop_of_length_le (by omega)] at HN;replace HN:=Lib.hid HN;repeat' (first|(apply O ();go_step)|apply sX ()|fail)
   go_ret;exact ⟨_,rfl,by rw [← HN.out];rfl,V⟩
theorem iF {S a b c} (h1:Au a) (h2:Au b) (h3:Au c):RL S [.int .i64 a,.int .i64 b,.int .i64 c] ([(a,b,c,())]:List Fg) :=
 RL.one_mk (AG (cs:=[_]) ⟨rfl,h1⟩ (AG (cs:=[_]) ⟨rfl,h2⟩ (AG (cs:=[_]) ⟨rfl,h3⟩ CM)))
abbrev Db (S:Ad) (M:List J) (xs:List Fg) (v:Value) (w:World):Prop :=
 ∃ S' so co,S.Le S'∧v=Ar so∧RL S' co xs∧St S' (.sl (Ar so) 186 3 xs.length co::M) w
theorem JR {S M} (w) (V:St S M w) (op a b) (h1:Au op) (h2:Au a) (h3:Au b):
  Ac prog 65 [.int .i64 op,.int .i64 a,.int .i64 b] w (Db S M (i1 op a b)):=by
 unfold Ac;go_enter func65,ntmps65;repeat' (first|(apply O ();go_step)|fail)
 refine Ay (vs:=[.agg #[.int .i64 op,.int .i64 a,.int .i64 b]]) V Y Y rfl rfl (by simp [Value.cells]) rfl (by omega) (by omega) ?_;clear V;intro x w V;apply nW ();repeat' (first|(apply O ();go_step)|fail)
 obtain ⟨ay,cy,rfl⟩:=Go.Sl.sl_formk (k:=0) V rfl;go_ret;exact ⟨_,rfl,S,(ay,1,cy),[.int .i64 op,.int .i64 a,.int .i64 b],Ad.Le.refl S,rfl,iF h1 h2 h3,V⟩
theorem Tx {S M} (w) (V:St S M w) (sl ls) (hl:RSl S (Ar sl) ls) (hm:ls.length≤10) (hn:∀ x∈ls,x.length≤100000):
  Ac prog 107 [Ar sl] w (Db S M ls.flatten):=by
 unfold Ac;obtain ⟨R,hR⟩:∃ R,ls.flatten=R:=⟨_,rfl⟩
 rw [hR];have HR:=Lib.hid hR;clear hR;have HN:=Lib.hid hn;clear hn;go_enter func107,ntmps107;replace V:=V.nil 186 3;repeat' (first|(apply O ();go_step)|fail)
 go_loopw [3,4] (fun u3 u4 wr=>∃ (i n:Nat) (so:Sv) (co:List Value),i≤ls.length∧n≤100000 * i∧u3=Ar so∧u4=.int .i64 (i:Int)∧Hid (n=(ls.take i).flatten.length)∧RL S co (ls.take i).flatten∧St S (.sl (Ar so) 186 3 n co::M) wr) (fun _ v _=>ls.length - (intOf v).toNat)
 case atStart=>exact ⟨0,0,(none,0,0),[],Nat.zero_le _,by omega,rfl,rfl,Lib.hid rfl,RL.nil,V⟩
 case round =>
  clear V;obtain ⟨i,n,so,co,hi2,hnb,rfl,rfl,hnl,hC,V⟩:=hrel;have hone:=BE (k:=0) V rfl;by_cases hlt:i < ls.length
  ·have hsn:Hid ((ls.take (i+1)).flatten=(ls.take i).flatten++ls[i]):=Lib.hid (by rw [List.take_succ_eq_append_getElem hlt,List.flatten_append];simp);have hxb:=HN.out ls[i] (List.getElem_mem hlt);repeat' (first|(apply O ();go_step)|apply sX ()|(apply sL ();intro v hvl hv1)|(apply sI ();intro v L)|fail)
   replace hvl:RSl S _ ls[i]:=hvl;refine Bj (α:=Fg) (k:=0) V X X SlIn.h hvl Y Y Y (by omega) (by omega) (by decide) ?_;clear V;intro x w d hd V;apply nW ();obtain ⟨ay,cy,rfl⟩:=Go.Sl.sl_formk (k:=0) V rfl;repeat' (first|(apply O ();go_step)|fail)
   go_roundw
   case rel=>exact ⟨i+1,n+ls[i].length,(ay,n+ls[i].length,cy),co++d,by omega,by omega,rfl,by go_num,Lib.hid (by rw [hsn.out,List.length_append,hnl.out]),by rw [hsn.out];exact hC.append hd,V⟩
   case measure=>simp [intOf];omega
  ·obtain rfl:i=ls.length:=by omega
   rw [List.take_length,HR.out] at hC hnl;obtain rfl:=hnl.out;repeat' (first|(apply O ();go_step)|apply sX ()|fail)
   go_ret;exact ⟨_,rfl,S,so,co,Ad.Le.refl S,rfl,hC,V⟩
theorem St.swap2 {S M w a b} (h:St S (a::b::M) w):St S (b::a::M) w:=h.move (k:=1) rfl
theorem KR {α:Type} [Z α] {S v} {xs:List α} (h:RSl S v xs) {i} (hi:i < xs.length):∃ cs,Z.R S cs xs[i]:=by
 apply jA ()
theorem gb {S v} {xs:List Ip} (h:RSl S v xs) {i} (hi:i < xs.length):xs[i].1.b.length≤maxLen:=by
 obtain ⟨cs,h⟩:=KR h hi;exact h.2.1.2
theorem fJ {S v} {xs:List Nd} (h:RSl S v xs) {i} (hi:i < xs.length):xs[i].2.2.1.b.length≤maxLen:=by
 obtain ⟨cs,h⟩:=KR h hi;exact h.2.2.2.2.2.1.2
def Ff (o:List Cv) (i:Ip):List Cv:=GZ o i.1
def DQ (o:List Cv) (x:Nd):List Cv:=if x.1=11 then GZ o x.2.2.1 else o
theorem RI (p):C0 p=p.2.1.foldl DQ (p.1.foldl Ff []):=by
 unfold C0;rw [List.foldl_filter]
 congr 1
 funext o x
 unfold DQ;by_cases h:x.1=11<;>simp [h]
theorem Q5 (o s):o.length≤(GZ o s).length∧(GZ o s).length≤o.length+1:=by
 unfold GZ;split<;>simp
theorem ML:∀ (xs:List Ip) (o:List Cv),(xs.foldl Ff o).length≤o.length+xs.length
 | [],o=>Nat.le_refl _
 | x::r,o=>by
  have h1:=ML r (Ff o x);have h2:=(Q5 o x.1).2;rw [List.foldl_cons];unfold Ff at *;simp only [List.length_cons];omega
theorem Q6:∀ (xs:List Nd) (o:List Cv),(xs.foldl DQ o).length≤o.length+xs.length
 | [],o=>Nat.le_refl _
 | x::r,o=>by
  have h1:=Q6 r (DQ o x)
  have h2:(DQ o x).length≤o.length+1:=by
   unfold DQ;split
   ·exact (Q5 o _).2
   ·omega
  rw [List.foldl_cons];simp only [List.length_cons];omega
theorem DI (p):(C0 p).length≤p.1.length+p.2.1.length:=by
 rw [RI];have h1:=Q6 p.2.1 (p.1.foldl Ff []);have h2:=ML p.1 [];simp only [List.length_nil] at h2;omega
theorem NA {α β:Type} (f:β→α→β) (b) {xs:List α} {i} (h):(xs.take (i+1)).foldl f b=f ((xs.take i).foldl f b) xs[i]:=by
 rw [List.take_succ_eq_append_getElem h,List.foldl_append];rfl
theorem Ok (s:Cv):∀ (xs:List Cv) (i:Int),0≤i→-1≤Fo s xs i∧Fo s xs i < i+xs.length
 | [],i,h=>by unfold Fo;simp only [List.length_nil];omega
 | x::r,i,h=>by
  unfold Fo;have:=Ok s r (i+1) (by omega);simp only [List.length_cons];split<;>omega
theorem VM {S} {s:Cv} (h:s.b.length≤maxLen):RL S [.string ⟨s.b.toArray⟩] [s]:=RL.one_mk ⟨rfl,h⟩
theorem UP {S M} (w) (V:St S M w) (si sn p) (L:Cm S si sn p):
  Ac prog 104 [Bo si sn p] w fun v w'=>∃ so co,v=Ar so∧RL S co (C0 p)∧St S (.sl (Ar so) 9 1 (C0 p).length co::M) w':=by
 unfold Ac;have hi:=L.i;have hn:=L.n;have hli:=L.li;have hln:=L.ln;obtain ⟨R,hR⟩:∃ R,C0 p=R:=⟨_,rfl⟩
 rw [hR];rw [RI] at hR;have HR:=Lib.hid hR;have hA1:=ML;clear hR L;generalize hxs:p.1=xs at *;generalize hns:p.2.1=ns at *;clear hxs hns;go_enter func104,ntmps104;replace V:=V.nil 9 1;repeat' (first|(apply O ();go_step)|(apply sB ();clear V;intro bx w V)|fail)
 go_loopw [3,4] (fun u3 u4 wr=>∃ (i n:Nat) (so:Sv) (co:List Value),i≤xs.length∧n≤i∧u3=Ar so∧u4=.int .i64 (i:Int)∧Hid (n=((xs.take i).foldl Ff []).length)∧RL S co ((xs.take i).foldl Ff [])∧St S (.box bx [.slice si.1 si.2.1 si.2.2,.slice sn.1 sn.2.1 sn.2.2,.int .i64 p.2.2.1,.int .i64 p.2.2.2.1] 87::.sl (Ar so) 9 1 n co::M) wr) (fun _ v _=>xs.length - (intOf v).toNat)
 case atStart=>exact ⟨0,0,(none,0,0),[],Nat.zero_le _,by omega,rfl,rfl,Lib.hid rfl,RL.nil,V⟩
 case round =>
  clear V;obtain ⟨i,n,so,co,hi2,hnb,rfl,rfl,hnl,hC,V⟩:=hrel;have hone:=BE (k:=1) V rfl;by_cases hlt:i < xs.length
  ·have hsn:Hid ((xs.take (i+1)).foldl Ff []=GZ ((xs.take i).foldl Ff []) xs[i].1):=Lib.hid (NA Ff [] hlt);generalize (xs.take i).foldl Ff []=os at *;obtain rfl:=hnl.out;have cI:=fun {M} w (V:St S (.sl (Ar so) 9 1 os.length co::M) w)=>Pw w so os co hC (by omega) V xs[i].1
   obtain ⟨z,hz⟩:∃ z,decide (Fo xs[i].1 os 0 < 0)=z:=⟨_,rfl⟩
   have hsb:=gb hi hlt
   cases z with
   | true =>
    have hsq:Hid (GZ os xs[i].1=os++[xs[i].1]):=Lib.hid (if_pos (of_decide_eq_true hz));repeat' (first|apply sK ()|(apply O ();go_step)|(apply kc ();refine sc (cI _ (St.swap2 V)) ?_;clear V;rintro v w ⟨rfl,V⟩)|(apply tL ();refine An V (AO X Ak Y) ?_;rintro v ⟨rfl,hs⟩<;>apply nW ())|apply sX ()|(apply sI ();intro v L)|fail)
    replace V:=St.swap2 V;refine Ay (vs:=[(.string ⟨xs[i].1.b.toArray⟩)]) V Y Y rfl rfl (by simp [Value.cells]) rfl (by omega) (by omega) ?_;clear V;intro u w V;simp only [List.set_cons_succ,List.set_cons_zero,AB,Ap,List.drop_succ_cons,List.drop_zero,List.take_succ_cons,List.take_zero,Bq,Int.toNat_zero,Int.reduceToNat,Nat.mul_one,Nat.zero_add,Nat.add_zero,Nat.reduceMul,Nat.reduceAdd,Nat.zero_mul,Int.reduceSub,Int.reduceAdd,Int.reduceMul,Int.reduceNeg,Bool.not_true,Bool.not_false];refine AF (j:=0) V X X SlIn.h rfl Y Y Y (by simp [Value.cells,Value.oneCell']) (by omega) (by omega) (by decide) ?_;clear V;intro v' w V;simp only [List.set_cons_succ,List.set_cons_zero,AB,Ap,List.drop_succ_cons,List.drop_zero,List.take_succ_cons,List.take_zero,Bq,Int.toNat_zero,Int.reduceToNat,Nat.mul_one,Nat.zero_add,Nat.add_zero,Nat.reduceMul,Nat.reduceAdd,Nat.zero_mul,Int.reduceSub,Int.reduceAdd,Int.reduceMul,Int.reduceNeg,Bool.not_true,Bool.not_false];(try replace V:=nH V);replace V:=V.drop;obtain ⟨ay,cy,rfl⟩:=Go.Sl.sl_formk (k:=1) V rfl;apply nW ();repeat' (first|(apply O ();go_step)|fail)
    go_roundw
    case rel=>exact ⟨i+1,os.length+1,(ay,os.length+1,cy),co++[.string ⟨xs[i].1.b.toArray⟩],by omega,by omega,rfl,by go_num,Lib.hid (by rw [hsn.out,hsq.out,List.length_append];rfl),by rw [hsn.out,hsq.out];exact hC.append (VM hsb),V⟩
    case measure=>simp [intOf];omega
   | false =>
    have hsq:Hid (GZ os xs[i].1=os):=Lib.hid (if_neg (of_decide_eq_false hz));repeat' (first|apply sK ()|(apply O ();go_step)|(apply kc ();refine sc (cI _ (St.swap2 V)) ?_;clear V;rintro v w ⟨rfl,V⟩)|(apply tL ();refine An V (AO X Ak Y) ?_;rintro v ⟨rfl,hs⟩<;>apply nW ())|apply sX ()|(apply sI ();intro v L)|fail)
    go_roundw
    case rel=>exact ⟨i+1,os.length,so,co,by omega,by omega,rfl,by go_num,Lib.hid (by rw [hsn.out,hsq.out]),by rw [hsn.out,hsq.out];exact hC,St.swap2 V⟩
    case measure=>simp [intOf];omega
  ·obtain rfl:i=xs.length:=by omega
   rw [List.take_length] at hC hnl;have hb1:=hA1 xs [];obtain ⟨Oqq,hO⟩:∃ Oqq,xs.foldl Ff []=Oqq:=⟨_,rfl⟩
   have HR2:Hid (ns.foldl DQ Oqq=R):=Lib.hid (by rw [← hO];exact HR.out);rw [hO] at hC hnl hb1;simp only [List.length_nil] at hb1;clear hO HR hA1;obtain rfl:=hnl.out;repeat' (first|(apply O ();go_step)|apply sX ()|fail)
   go_loopw [3,5] (fun u3 u5 wr=>∃ (i n:Nat) (so:Sv) (co:List Value),i≤ns.length∧n≤Oqq.length+i∧u3=Ar so∧u5=.int .i64 (i:Int)∧Hid (n=((ns.take i).foldl DQ Oqq).length)∧RL S co ((ns.take i).foldl DQ Oqq)∧St S (.box bx [.slice si.1 si.2.1 si.2.2,.slice sn.1 sn.2.1 sn.2.2,.int .i64 p.2.2.1,.int .i64 p.2.2.2.1] 87::.sl (Ar so) 9 1 n co::M) wr) (fun _ v _=>ns.length - (intOf v).toNat)
   case atStart=>exact ⟨0,Oqq.length,so,co,Nat.zero_le _,by omega,rfl,rfl,Lib.hid rfl,hC,V⟩
   case round =>
    clear V hC;rename_i so0 co0 hone0;obtain ⟨i,n,so,co,hi3,hnb2,rfl,rfl,hnl,hC,V⟩:=hrel;have hone:=BE (k:=1) V rfl;by_cases hlt2:i < ns.length
    ·have hsn:Hid ((ns.take (i+1)).foldl DQ Oqq=DQ ((ns.take i).foldl DQ Oqq) ns[i]):=Lib.hid (NA DQ Oqq hlt2);generalize (ns.take i).foldl DQ Oqq=os at *;obtain rfl:=hnl.out;have cI:=fun {M} w (V:St S (.sl (Ar so) 9 1 os.length co::M) w)=>Pw w so os co hC (by omega) V ns[i].2.2.1
     obtain ⟨z,hz⟩:∃ z,decide (Fo ns[i].2.2.1 os 0 < 0)=z:=⟨_,rfl⟩
     obtain ⟨z1,hz1⟩:∃ z,(ns[i].1 == 11)=z:=⟨_,rfl⟩
     have hsb:=fJ hn hlt2
     cases z1 with
     | false =>
      have hsq:Hid (DQ os ns[i]=os):=Lib.hid (if_neg (beq_eq_false_iff_ne.1 hz1));repeat' (first|apply sK ()|apply sG ()|(apply O ();go_step)|apply sX ()|(apply sN ();intro hI)|(apply sI ();intro v L)|fail)
      go_roundw
      case rel=>exact ⟨i+1,os.length,so,co,by omega,by omega,rfl,by go_num,Lib.hid (by rw [hsn.out,hsq.out]),by rw [hsn.out,hsq.out];exact hC,V⟩
      case measure=>simp [intOf];omega
     | true =>
      have hsq0:Hid (DQ os ns[i]=GZ os ns[i].2.2.1):=Lib.hid (if_pos (beq_iff_eq.1 hz1))
      cases z with
      | true =>
       have hsq:Hid (GZ os ns[i].2.2.1=os++[ns[i].2.2.1]):=Lib.hid (if_pos (of_decide_eq_true hz));repeat' (first|apply sK ()|apply sG ()|(apply O ();go_step)|(apply kc ();refine sc (cI _ (St.swap2 V)) ?_;clear V;rintro v w ⟨rfl,V⟩)|(apply tL ();refine An V (AO X Ak Y) ?_;rintro v ⟨rfl,hs⟩<;>apply nW ())|apply sX ()|(apply sN ();intro hI)|(apply sI ();intro v L)|fail)
       replace V:=St.swap2 V;refine Ay (vs:=[(.string ⟨ns[i].2.2.1.b.toArray⟩)]) V Y Y rfl rfl (by simp [Value.cells]) rfl (by omega) (by omega) ?_;clear V;intro u w V;simp only [List.set_cons_succ,List.set_cons_zero,AB,Ap,List.drop_succ_cons,List.drop_zero,List.take_succ_cons,List.take_zero,Bq,Int.toNat_zero,Int.reduceToNat,Nat.mul_one,Nat.zero_add,Nat.add_zero,Nat.reduceMul,Nat.reduceAdd,Nat.zero_mul,Int.reduceSub,Int.reduceAdd,Int.reduceMul,Int.reduceNeg,Bool.not_true,Bool.not_false];refine AF (j:=0) V X X SlIn.h rfl Y Y Y (by simp [Value.cells,Value.oneCell']) (by omega) (by omega) (by decide) ?_;clear V;intro v' w V;simp only [List.set_cons_succ,List.set_cons_zero,AB,Ap,List.drop_succ_cons,List.drop_zero,List.take_succ_cons,List.take_zero,Bq,Int.toNat_zero,Int.reduceToNat,Nat.mul_one,Nat.zero_add,Nat.add_zero,Nat.reduceMul,Nat.reduceAdd,Nat.zero_mul,Int.reduceSub,Int.reduceAdd,Int.reduceMul,Int.reduceNeg,Bool.not_true,Bool.not_false];(try replace V:=nH V);replace V:=V.drop;obtain ⟨ay,cy,rfl⟩:=Go.Sl.sl_formk (k:=1) V rfl;apply nW ();repeat' (first|(apply O ();go_step)|fail)
       go_roundw
       case rel=>exact ⟨i+1,os.length+1,(ay,os.length+1,cy),co++[.string ⟨ns[i].2.2.1.b.toArray⟩],by omega,by omega,rfl,by go_num,Lib.hid (by rw [hsn.out,hsq0.out,hsq.out,List.length_append];rfl),by rw [hsn.out,hsq0.out,hsq.out];exact hC.append (VM hsb),V⟩
       case measure=>simp [intOf];omega
      | false =>
       have hsq:Hid (GZ os ns[i].2.2.1=os):=Lib.hid (if_neg (of_decide_eq_false hz));repeat' (first|apply sK ()|apply sG ()|(apply O ();go_step)|(apply kc ();refine sc (cI _ (St.swap2 V)) ?_;clear V;rintro v w ⟨rfl,V⟩)|(apply tL ();refine An V (AO X Ak Y) ?_;rintro v ⟨rfl,hs⟩<;>apply nW ())|apply sX ()|(apply sN ();intro hI)|(apply sI ();intro v L)|fail)
       go_roundw
       case rel=>exact ⟨i+1,os.length,so,co,by omega,by omega,rfl,by go_num,Lib.hid (by rw [hsn.out,hsq0.out,hsq.out]),by rw [hsn.out,hsq0.out,hsq.out];exact hC,St.swap2 V⟩
       case measure=>simp [intOf];omega
    ·obtain rfl:i=ns.length:=by omega
     rw [List.take_length,HR2.out] at hC hnl;obtain rfl:=hnl.out;repeat' (first|(apply O ();go_step)|apply sX ()|fail)
     go_ret;exact ⟨_,rfl,so,co,rfl,hC,V.drop⟩
theorem ZI (p) {k} (h):D9 p (k+1)=D9 p k+(if p.2.1[k].1=13 then 1 else 0):=by
 unfold D9;rw [List.take_succ_eq_append_getElem h,List.filter_append,List.length_append];by_cases h2:p.2.1[k].1=13<;>simp [h2]<;>omega
theorem QW (p k) (hi:p.1.length≤100000) (hn:p.2.1.length≤100000):0≤D9 p k∧D9 p k≤300000:=by
 unfold D9;have h1:=DI p;have h2:((p.2.1.take k).filter fun x=>decide (x.1=13)).length≤p.2.1.length:=Nat.le_trans (List.length_filter_le _ _) (by rw [List.length_take];omega);omega
theorem WN {S M} (w) (V:St S M w) (si sn p) (L:Cm S si sn p) (k) (hk:k≤p.2.1.length):
  Ac prog 63 [Bo si sn p,.int .i64 (k:Int)] w fun v w'=>v=.int .i64 (D9 p k)∧St S M w':=by
 unfold Ac;have hn:=L.n;have hln:=L.ln;have hlv:=DI p;have hli:=L.li;have hb:=fun j=>QW p j L.li L.ln
 have hcs:=fun {j:Nat} (h:j < p.2.1.length)=>ZI p h
 have hc0:D9 p 0=((C0 p).length:Int):=by unfold D9;simp
 have cV:=fun {M} w (V:St S M w)=>UP w V si sn p L
 generalize hns:p.2.1=ns at *;generalize C0 p=vs at *;generalize hcn:D9 p=cn at *;have HP:=Lib.hid L;have HB:=Lib.hid hb;have HS:=Lib.hid (fun j h=>@hcs j h);clear L hns hcn hb hcs;go_enter func63,ntmps63;repeat' (first|(apply O ();go_step)|(apply kc ();refine sc (cV _ V) ?_;clear V;rintro v w ⟨so,co,rfl,hC,V⟩)|apply sX ()|(apply sB ();clear V;intro bx w V)|fail)
 replace V:=V.drop
 go_loopw [5,6] (fun u5 u6 wr=>∃ (i:Nat),i≤k∧u5=.int .i64 (cn i)∧u6=.int .i64 (i:Int)∧St S (.box bx [.slice si.1 si.2.1 si.2.2,.slice sn.1 sn.2.1 sn.2.2,.int .i64 p.2.2.1,.int .i64 p.2.2.2.1] 87::M) wr) (fun _ v _=>k - (intOf v).toNat)
 case atStart=>exact ⟨0,Nat.zero_le _,by rw [hc0],rfl,V⟩
 case round =>
  clear V;obtain ⟨i,hi2,rfl,rfl,V⟩:=hrel;by_cases hlt:i < k
  ·have hx:=HB.out i;have hlt2:i < ns.length:=by omega
   have hs:=Lib.hid (HS.out i hlt2);generalize cn i=c at *;obtain ⟨z,hz⟩:∃ z,(ns[i].1 == 13)=z:=⟨_,rfl⟩
   cases z with
   | true =>
    have hs2:=Lib.hid (hs.out.trans (congrArg (c + ·) (if_pos (beq_iff_eq.1 hz))));repeat' (first|apply sK ()|(apply O ();go_step)|apply sX ()|(apply sN ();intro hI)|(apply sI ();intro v L)|fail)
    go_roundw
    case rel=>exact ⟨i+1,by omega,by rw [hs2.out],by go_num,V⟩
    case measure=>simp [intOf];omega
   | false =>
    have hs2:=Lib.hid (hs.out.trans (congrArg (c + ·) (if_neg (beq_eq_false_iff_ne.1 hz))));repeat' (first|apply sK ()|(apply O ();go_step)|apply sX ()|(apply sN ();intro hI)|(apply sI ();intro v L)|fail)
    go_roundw
    case rel=>exact ⟨i+1,by omega,by rw [hs2.out,Int.add_zero],by go_num,V⟩
    case measure=>simp [intOf];omega
  ·obtain rfl:i=k:=by omega
   repeat' (first|(apply O ();go_step)|fail)
   go_ret;exact ⟨_,rfl,rfl,V.drop⟩
end Go.Proofs.YtmmbidoldegemaaGreatDoor
