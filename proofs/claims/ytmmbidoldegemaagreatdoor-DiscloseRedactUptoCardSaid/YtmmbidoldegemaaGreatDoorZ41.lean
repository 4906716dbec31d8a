/- Part 42 of a proof; no conditions. -/
import Derived.Test.YtmmbidoldegemaaGreatDoorZ40
set_option linter.all false
set_option maxRecDepth 8000
set_option maxHeartbeats 8000000
namespace Go.Proofs.YtmmbidoldegemaaGreatDoor
open Go.RowKit Go.Sl Go.Proofs.Tryz
theorem U5 (g:Int→Nat) {os:List Int} (h):((os.take 1).map g).sum=g os[0]:=by
 match os,h with
 | a::r,_=>simp
theorem U4 (g:Int→Nat) {os:List Int} (h:1 < os.length):((os.take 2).map g).sum=g os[0]+g os[1]:=by
 match os,h with
 | a::b::r,_=>simp
section
variable {S:Ad} {M:List J} {w:World} {p:Pg} {f k:Nat} {pos:Int}
theorem Uy (ih:Lr p f) (V:St S M w) (hb:Fs p) (cl cn:List Value) (hRp:Z.R S cl p) (hk:k < p.2.1.length) (hRn:Z.R S cn p.2.1[k]) (hw:Cl p) (hf:k+1≤f+1) (hq:0≤pos∧pos+4 * (Bp p.2.1 (f+1) k:Int)≤100000) (hv:(p.2.1[k]).1=12) :
  Ac prog 106 [.agg cl.toArray,.agg cn.toArray,.int .i64 pos] w (Db S M (AH p (f+1) k pos)):=by
 unfold Ac;obtain ⟨R,hR⟩:∃ R,AH p (f+1) k pos=R:=⟨_,rfl⟩
 rw [hR];rw [AH,Be hk] at hR;simp only at hR;rw [if_neg (by omega),if_neg (by omega),if_pos hv] at hR;have ha:=NO hw hk hv;have l0:0 < (p.2.1[k]).2.2.2.1.length:=by omega
 have l1:1 < (p.2.1[k]).2.2.2.1.length:=by omega
 have v0:=Hl (f:=f) hk l0;have v1:=Hl (f:=f) hk l1;rw [U5 _ l0] at v1;have b0:=Ej (f:=f) hw hk 0 l0 pos;have c0:=fun {S' M} w (V:St S' M w) cl (hR:Z.R S' cl p)=>Gl ih hw hk hf 0 l0 w V cl hR pos (by omega)
 generalize AH p f (AU p.2.1[k] 0) pos=C at *;have b1:=Ej (f:=f) hw hk 1 l1 (pos+(C.length:Int)+1);have c1:=fun {S' M} w (V:St S' M w) cl (hR:Z.R S' cl p)=>Gl ih hw hk hf 1 l1 w V cl hR (pos+(C.length:Int)+1) (by omega)
 generalize AH p f (AU p.2.1[k] 1) (pos+(C.length:Int)+1)=A at *
 have hrest:(p.2.1[k]).2.2.2.1.length=2∨∃ l2:2 < (p.2.1[k]).2.2.2.1.length,Bp p.2.1 f (p.2.1[k]).2.2.2.1[0]+Bp p.2.1 f (p.2.1[k]).2.2.2.1[1]+Bp p.2.1 f (p.2.1[k]).2.2.2.1[2]+1≤Bp p.2.1 (f+1) k:=by
  by_cases h:(p.2.1[k]).2.2.2.1.length=2
  ·exact .inl h
  ·have l2:2 < (p.2.1[k]).2.2.2.1.length:=by omega
   have v2:=Hl (f:=f) hk l2;rw [U4 _ l1] at v2;exact .inr ⟨l2,by omega⟩
 have HR:=Lib.hid hR;clear hR hv;obtain ⟨si,sn,rfl,L⟩:=Fj hb hRp;obtain ⟨so,rfl,ho,hI1,hI2,hI3⟩:=A5 hRn;clear L ho;have hcb : -1000000≤pos+(C.length:Int)+1+(A.length:Int)∧pos+(C.length:Int)+1+(A.length:Int)≤1000000:=by omega
 go_enter func106,ntmps106;repeat' ((apply ZZ 1);first|(apply O ();go_step)|(apply sB ();clear V;intro bx w V)|fail)
 obtain ⟨S1,hS1,hst1,hpn⟩:=AC (α:=Nd) V hRn rfl;generalize Value.pointer (some ⟨bx,0,none⟩)=pN at *;clear V;rename Nat=>bz
 obtain ⟨S2,hS2,V,hpp⟩:=AC (α:=Pg) hst1 (Z.mono hS1 hRp) rfl;clear hst1 hRn hRp;replace hpn:=Pt.mono hS2 hpn;generalize Value.pointer (some ⟨bx,0,none⟩)=pP at *;have hSS2:=hS1.trans hS2;clear hS1 hS2;refine Bm V kr ?_;clear V;intro w V;have hSS:=Cn V;apply nW ();refine px 0 rfl (Aw (y:=p) X hpp Y) ?_;rintro v0 ⟨cV,rfl,hcV⟩;refine px 1 rfl (As X hpn Y Y rfl) ?_;rintro v1 hp1;refine px 2 rfl (Aj X hp1 Y) ?_;rintro v2 ⟨hv2,hv21⟩;replace hv2:RSl S2 v2 (p.2.1[k]).2.2.2.1:=hv2;refine px 3 rfl (Aq X hv2 rfl Y Y Af Af) ?_;rintro v3 hp3;(try simp only [Int.toNat_zero,Int.reduceToNat] at hp3);refine px 4 rfl (Am X hp3 Y) ?_;rintro v4 ⟨rfl,hI4⟩;refine pd 5 rfl ?_;refine po 6 rfl ?_;intro K G;refine sc (c0 w V cV (Z.mono hSS hcV)) ?_;clear V;rintro v6 w ⟨S3,so3,hS3,rfl,hX3,V⟩;replace hSS:=hSS.trans hS3;refine pn G ?_;clear G K;refine pd 7 rfl ?_;refine AK kr ?_;have hpp3:=Pt.mono hSS hpp;have hpn3:=Pt.mono hSS hpn;have hS23:=hSS;clear hpp hpn hSS;repeat' ((apply ZZ 2);first|(apply O ();go_step)|fail)
 refine Bm V kr ?_;clear V;intro w V;have hSS:=Cn V;apply nW ();refine px 0 rfl (Aw (y:=p) X hpp3 Y) ?_;rintro v0 ⟨cV,rfl,hcV⟩;refine px 1 rfl (As X hpn3 Y Y rfl) ?_;rintro v1 hp1;refine px 2 rfl (Aj X hp1 Y) ?_;rintro v2 ⟨hv2,hv21⟩;replace hv2:RSl S3 v2 (p.2.1[k]).2.2.2.1:=hv2;refine px 3 rfl (Aq X hv2 rfl Y Y Af Af) ?_;rintro v3 hp3;(try simp only [Int.toNat_zero,Int.reduceToNat] at hp3);refine px 4 rfl (Am X hp3 Y) ?_;rintro v4 ⟨rfl,hI4⟩;refine pd 5 rfl ?_;refine pd 6 rfl ?_;refine pt 7 rfl (EH X hX3 Y) ?_;refine pt 8 rfl (by exact DC rfl rfl Af) ?_;refine pt 9 rfl (by exact DC rfl rfl Af) ?_;refine po 10 rfl ?_;intro K G;refine sc (c1 w V cV (Z.mono hSS hcV)) ?_;clear V;rintro v10 w ⟨S4,so4,hS4,rfl,hX4,V⟩;replace hSS:=hSS.trans hS4;refine pn G ?_;clear G K;refine pd 11 rfl ?_;refine AK kr ?_;have hpp4:=Pt.mono hSS hpp3;have hpn4:=Pt.mono hSS hpn3;have hX34:=hX3.mono hSS;have hS24:=hS23.trans hSS;clear hpp3 hpn3 hSS hX3;have cO:∀ {S' M} w (V:St S' M w) (e:Int),-1000002≤e∧e≤1000002→Ac prog 65 [.int .i64 12,.int .i64 e,.int .i64 (p.2.1[k]).2.1] w (Ls S' M (i1 12 e (p.2.1[k]).2.1)):=fun w V e he=>GA w V 12 e (p.2.1[k]).2.1 (Ah (by decide)) (by show -9223372036854775808≤e∧e≤9223372036854775807;omega) hI2
 rcases hrest with h2|⟨l2,v2⟩
 ·have e2:(((p.2.1[k]).2.2.2.1.length:Int) == 2)=true:=beq_iff_eq.2 (by omega)
  have HL:Hid (∀ x∈[C,i1 12 (pos+(C.length:Int)+1+(A.length:Int)) (p.2.1[k]).2.1,A],x.length≤100000):=Lib.hid (by
   intro x hx;simp only [List.mem_cons,List.not_mem_nil,or_false] at hx;rcases hx with rfl|rfl|rfl
   ·omega
   ·show 1≤_;omega
   ·omega)
  have hfl:Hid ([C,i1 12 (pos+(C.length:Int)+1+(A.length:Int)) (p.2.1[k]).2.1,A].flatten=R):=Lib.hid (by rw [← HR.out,if_pos h2];simp [List.flatten]);clear HR h2 c0 c1 b0 b1;repeat' (first|apply sK ()|(apply O ();go_step)|(apply kc ();refine BG (cO _ V _ (by omega)) Y rfl ?_;clear V;rintro v w ⟨S5,so5,hS5,rfl,hX5,V⟩<;>apply nW ()<;>(try replace V:=nH V))|apply sX ()|(apply sN ();intro hI)|(apply sL ();intro v hvl hv1)|(apply sI ();intro v L)|fail)
  refine Ay (vs:=[Ar so3,Ar so5,Ar so4]) V Y Y rfl rfl (by simp [Value.cells]) rfl (by omega) (by omega) ?_;clear V;intro x14 w hst0;obtain ⟨S7,hS7,V,hX7⟩:=St.freeze (α:=List Fg) hst0 (DX (hX34.mono hS5) (DX hX5 (DX (hX4.mono hS5) RL.nil))) rfl;clear hst0;obtain ⟨a7,n7,k7,rfl⟩:=BQ hX7
  have cR:∀ {M:List J} (w:World) (_:St S7 M w),Ac prog 107 [.slice a7 n7 k7] w (Db S7 M R):=fun {M} w V=>by
   rw [← hfl.out];exact Tx w V (a7,n7,k7) _ hX7 (by show 3≤10;omega) HL.out
  clear hfl;apply nW ();repeat' (first|(apply O ();go_step)|(apply kc ();refine BG (cR _ V) Y rfl ?_;clear V;rintro v w ⟨S8,so8,co8,hS8,rfl,hC8,V⟩<;>apply nW ()<;>(try replace V:=nH V))|fail)
  go_ret;exact ⟨_,rfl,S8,so8,co8,hSS2.trans (hS24.trans (hS5.trans (hS7.trans hS8))),rfl,hC8,V⟩
 ·have e2:(((p.2.1[k]).2.2.2.1.length:Int) == 2)=false:=beq_eq_false_iff_ne.2 (by omega);have b2:=Ej (f:=f) hw hk 2 l2 (pos+(C.length:Int)+1+(A.length:Int)+1);have c2:=fun {S' M} w (V:St S' M w) cl (hR:Z.R S' cl p)=>Gl ih hw hk hf 2 l2 w V cl hR (pos+(C.length:Int)+1+(A.length:Int)+1) (by omega)
  have HR2:=HR.out;rw [if_neg (by omega)] at HR2;generalize AH p f (AU p.2.1[k] 2) (pos+(C.length:Int)+1+(A.length:Int)+1)=B at *
  have HL:Hid (∀ x∈[C,i1 12 (pos+(C.length:Int)+1+(A.length:Int)+1) (p.2.1[k]).2.1,A,i1 13 (pos+(C.length:Int)+1+(A.length:Int)+1+(B.length:Int)) 0,B],x.length≤100000):=Lib.hid (by
   intro x hx;simp only [List.mem_cons,List.not_mem_nil,or_false] at hx;rcases hx with rfl|rfl|rfl|rfl|rfl
   ·omega
   ·show 1≤_;omega
   ·omega
   ·show 1≤_;omega
   ·omega)
  have hfl:Hid ([C,i1 12 (pos+(C.length:Int)+1+(A.length:Int)+1) (p.2.1[k]).2.1,A,i1 13 (pos+(C.length:Int)+1+(A.length:Int)+1+(B.length:Int)) 0,B].flatten=R):=Lib.hid (by rw [← HR2];simp [List.flatten]);have cJ:∀ {S' M} w (V:St S' M w) (e:Int),-2000002≤e∧e≤2000002→Ac prog 65 [.int .i64 13,.int .i64 e,.int .i64 0] w (Ls S' M (i1 13 e 0)):=fun w V e he=>GA w V 13 e 0 (Ah (by decide)) (by show -9223372036854775808≤e∧e≤9223372036854775807;omega) (Ah (by decide))
  clear HR HR2 c0 c1 b0 b1;repeat' ((apply ZZ 6);first|apply sK ()|(apply O ();go_step)|apply sX ()|(apply sL ();intro v hvl hv1)|(apply sI ();intro v L)|fail)
  refine Bm V kr ?_;clear V;intro w V;have hSS:=Cn V;apply nW ();refine px 0 rfl (Aw (y:=p) X hpp4 Y) ?_;rintro v0 ⟨cV,rfl,hcV⟩;refine px 1 rfl (As X hpn4 Y Y rfl) ?_;rintro v1 hp1;refine px 2 rfl (Aj X hp1 Y) ?_;rintro v2 ⟨hv2,hv21⟩;replace hv2:RSl S4 v2 (p.2.1[k]).2.2.2.1:=hv2;refine px 3 rfl (Aq X hv2 rfl Y Y Af Af) ?_;rintro v3 hp3;(try simp only [Int.toNat_zero,Int.reduceToNat] at hp3);refine px 4 rfl (Am X hp3 Y) ?_;rintro v4 ⟨rfl,hI4⟩;refine pd 5 rfl ?_;refine pt 6 rfl (by exact DC rfl rfl Af) ?_;refine po 7 rfl ?_;intro K G;refine sc (c2 w V cV (Z.mono hSS hcV)) ?_;clear V;rintro v7 w ⟨S5,so5,hS5,rfl,hX5,V⟩;replace hSS:=hSS.trans hS5;refine pn G ?_;clear G K;refine pd 8 rfl ?_;refine AK kr ?_;have hpn5:=Pt.mono hSS hpn4;have hX35:=hX34.mono hSS;have hX45:=hX4.mono hSS;have hS25:=hS24.trans hSS;clear hpp4 hpn4 hSS hX34 hX4 c2;repeat' (first|(with_reducible (refine Ag V (EH X (hX5.mono hS6) Y) ?_)<;>apply nW ())|(apply O ();go_step)|(apply kc ();refine BG (cO _ V _ (by omega)) Y rfl ?_;clear V;rintro v w ⟨S6,so6,hS6,rfl,hX6,V⟩<;>apply nW ()<;>(try replace V:=nH V))|(apply kc ();refine BG (cJ _ V _ (by omega)) Y rfl ?_;clear V;rintro v w ⟨S9,so9,hS9,rfl,hX9,V⟩<;>apply nW ()<;>(try replace V:=nH V))|(apply sN ();intro hI)|(apply sI ();intro v L)|fail)
  refine Ay (vs:=[Ar so3,Ar so6,Ar so4,Ar so9,Ar so5]) V Y Y rfl rfl (by simp [Value.cells]) rfl (by omega) (by omega) ?_;clear V;intro x14 w hst0;obtain ⟨S7,hS7,V,hX7⟩:=St.freeze (α:=List Fg) hst0 (DX (hX35.mono (hS6.trans hS9)) (DX (hX6.mono hS9) (DX (hX45.mono (hS6.trans hS9)) (DX hX9 (DX (hX5.mono (hS6.trans hS9)) RL.nil))))) rfl;clear hst0;obtain ⟨a7,n7,k7,rfl⟩:=BQ hX7
  have cR:∀ {M:List J} (w:World) (_:St S7 M w),Ac prog 107 [.slice a7 n7 k7] w (Db S7 M R):=fun {M} w V=>by
   rw [← hfl.out];exact Tx w V (a7,n7,k7) _ hX7 (by show 5≤10;omega) HL.out
  clear hfl;apply nW ();repeat' (first|(apply O ();go_step)|(apply kc ();refine BG (cR _ V) Y rfl ?_;clear V;rintro v w ⟨S8,so8,co8,hS8,rfl,hC8,V⟩<;>apply nW ()<;>(try replace V:=nH V))|fail)
  go_ret;exact ⟨_,rfl,S8,so8,co8,hSS2.trans (hS25.trans (hS6.trans (hS9.trans (hS7.trans hS8)))),rfl,hC8,V⟩
variable {si sn:Sv}
theorem dq (ih:Lr p f) (V:St S M w) (L:Cm S si sn p) (hw:Cl p) (hk:k < p.2.1.length) (hf:k+1≤f+1) (hq:0≤pos∧pos+4 * (Bp p.2.1 (f+1) k:Int)≤100000) (hv:(p.2.1[k]).1=12) :
  Ac prog 64 [Bo si sn p,.int .i64 (k:Int),.int .i64 pos] w (Db S M (AH p (f+1) k pos)):=by
 unfold Ac;obtain ⟨R,hR⟩:∃ R,AH p (f+1) k pos=R:=⟨_,rfl⟩
 rw [hR];rw [AH,Be hk] at hR;simp only at hR;have hn:=L.n;have hln:=L.ln;have hli:=L.li;have hvl:=DI p;have hb:Fs p:=⟨L.li,L.ln,L.lo⟩
 have hpr:=Fe L;rw [if_neg (by omega),if_neg (by omega),if_pos hv] at hR;have e1:(p.2.1[k].1 == 1)=false:=beq_eq_false_iff_ne.2 (by omega);have e2:(p.2.1[k].1 == 2)=false:=beq_eq_false_iff_ne.2 (by omega);have e12:(p.2.1[k].1 == 12)=true:=by first|rw [hv];rfl|exact beq_iff_eq.2 (by omega)
 have cB:=fun {S' M} w (V:St S' M w) cl cn (hRp:Z.R S' cl p) (hRn:Z.R S' cn p.2.1[k])=>Uy ih V hb cl cn hRp hk hRn hw hf hq hv
 rw [AH,Be hk] at cB;simp only at cB;rw [if_neg (by omega),if_neg (by omega),if_pos hv] at cB;rw [hR] at cB;have HR:=Lib.hid hR;clear hR hv L;go_enter func64,ntmps64;repeat' ((apply ZZ 1);first|(apply O ();go_step)|(apply sB ();clear V;intro bx w V)|fail)
 refine wp_region_lit ?_;repeat' (first|(apply O ();go_step)|apply sX ()|(apply sD ();intro cl hcl)|(apply sI ();intro v L)|(apply sA ();clear V;intro bk w V)|fail)
 obtain ⟨so,rfl,ho,hI1,hI2,hI3⟩:=A5 hcl;rw [show Z.agg Nd=true from rfl];apply nW ();repeat' ((apply ZZ 2);first|(apply O ();go_step)|(apply sS ();clear V;intro w V)|fail)
 obtain ⟨S1,hS1,hst1,hpn⟩:=AC (α:=Nd) V hcl rfl;clear V;obtain ⟨S2,hS2,V,hpp⟩:=AC (α:=Pg) hst1 (Z.mono hS1 hpr) rfl;clear hst1 hcl hpr ho hn;replace hpn:=Pt.mono hS2 hpn;generalize Value.pointer (some ⟨bk,0,none⟩)=pN at *;generalize Value.pointer (some ⟨bx,0,none⟩)=pP at *;have hSS2:=hS1.trans hS2;clear hS1 hS2;repeat' (first|apply sK ()|(apply O ();go_step)|(apply tL ();refine An V (Aw (y:=p) X hpp Y) ?_;rintro v34 ⟨c34,rfl,hc34⟩<;>apply nW ())|(apply tL ();refine An V (Aw (y:=p.2.1[k]) X hpn Y) ?_;rintro v35 ⟨c35,rfl,hc35⟩<;>apply nW ())|(apply kc ();refine BG (cB _ V c34 c35 hc34 hc35) Y rfl ?_;clear V;rintro v w ⟨S3,so3,co3,hS3,rfl,hC3,V⟩<;>apply nW ()<;>(try replace V:=nH V))|(apply sN ();intro hI)|(apply sI ();intro v L)|fail)
 go_ret;exact ⟨_,rfl,S3,so3,co3,hSS2.trans hS3,rfl,hC3,V⟩
end
theorem Wb {p:Pg} (hw:Cl p) (hb:Fs p):∀ f,Lr p f
 | 0=>by intro w cl k pos V hR hk hf hq;omega
 | f+1=>by
  intro w cl k pos V hR hk hf hq;obtain ⟨si,sn,rfl,L⟩:=Fj hb hR;have ih:Lr p f:=Wb hw hb f;have hc:=(hw.nd (k:Int) (by omega) (by omega)).cls;rw [Be hk] at hc
  have hc2:1≤(p.2.1[k]).1∧(p.2.1[k]).1≤17:=by
   unfold Ea at hc;by_cases h1:1≤(p.2.1[k]).1∧(p.2.1[k]).1≤10
   ·omega
   ·by_cases h2:11≤(p.2.1[k]).1∧(p.2.1[k]).1≤16
    ·omega
    ·by_cases h3:(p.2.1[k]).1=17
     ·omega
     ·rw [if_neg h1,if_neg h2,if_neg h3] at hc;exact (hc rfl).elim
  obtain h|h|h|h|h|h|h|h|h|h:(p.2.1[k]).1=1∨(p.2.1[k]).1=2∨(p.2.1[k]).1=12∨(p.2.1[k]).1=13∨(p.2.1[k]).1=15∨(p.2.1[k]).1=16∨(p.2.1[k]).1=11∨(p.2.1[k]).1=14∨(p.2.1[k]).1=17∨(3≤(p.2.1[k]).1∧(p.2.1[k]).1≤10):=by omega
  ·exact fR V L hw hk hf hq h
  ·exact fQ V L hw hk hf hq h
  ·exact dq ih V L hw hk hf hq h
  ·exact dp ih V L hw hk hf hq h
  ·exact dm V L hw hk hf hq h
  ·exact dl V L hw hk hf hq h
  ·exact dr ih V L hw hk hf hq h
  ·exact dn ih V L hw hk hf hq h
  ·exact dk ih V L hw hk hf hq h
  ·exact dj ih V L hw hk hf hq h
abbrev i9 (S:Ad) (M:List J) (r:(List Fg×Int×Int)×Int) (v:Value) (w:World):Prop :=
 ∃ S' so,S.Le S'∧v=.tuple #[.agg #[Ar so,.int .i64 r.1.2.1,.int .i64 r.1.2.2],.int .i64 r.2]∧RSl S' (Ar so) r.1.1∧St S' M w
theorem Yk {S}:RSl S (.slice none 0 0) ([]:List Fg):=.inl ⟨none,0,rfl,rfl,by unfold maxLen;omega⟩
theorem QU {p} (h:BH p≠0):GE p=(([],0,0),BH p):=by unfold GE;simp only;rw [if_pos h]
theorem LN {p} (h:BH p=0):GE p=((AH p (p.2.1.length+1) p.2.2.1 0++i1 16 0 0,D9 p p.2.1.length,p.2.2.2.1),0):=by unfold GE;simp only;rw [if_neg (by rw [h];decide)]
theorem NI {p} (h:BH p=0):CV p=true:=by
 cases hf:CV p with
 | true=>rfl
 | false=>rw [SK hf] at h;cases h
theorem Wa {p} (hw:Cl p) (hb:Fs p) {S M} (w) (V:St S M w) (cl) (hR:Z.R S cl p):
  Ac prog 64 [.agg cl.toArray,.int .i64 p.2.2.1,.int .i64 0] w (Db S M (AH p (p.2.1.length+1) p.2.2.1 0)):=by
 have h0:=hw.n0;have e:p.2.2.1=((p.2.1.length - 1:Nat):Int):=by have:=hw.rt;omega
 have hv:=PB hw;have e2:((p.2.1.length:Int) - 1)=((p.2.1.length - 1:Nat):Int):=by omega
 rw [e2] at hv;have:=hw.n4;rw [e];exact Wb hw hb (p.2.1.length+1) w cl (p.2.1.length - 1) 0 V hR (by omega) (by omega) (by rw [hv];omega)
theorem Kx {p} (hw:Cl p):(AH p (p.2.1.length+1) p.2.2.1 0).length≤1600:=by
 have h0:=hw.n0;have e:p.2.2.1=((p.2.1.length - 1:Nat):Int):=by have:=hw.rt;omega
 have hv:=PB hw;have e2:((p.2.1.length:Int) - 1)=((p.2.1.length - 1:Nat):Int):=by omega
 rw [e2] at hv;have h4:=hw.n4;rw [e];have:=Mv hw (p.2.1.length+1) (p.2.1.length - 1) 0 (by omega);omega
theorem fH {S M} (w) (V:St S M w) {p} (hb:Fs p) (cl) (hR:Z.R S cl p):
  Ac prog 37 [.agg cl.toArray] w (Q8 S M (BH p)):=by
 obtain ⟨si,sn,rfl,L⟩:=Fj hb hR;exact Qd w V si sn p L
theorem gG {S M} (w) (V:St S M w) (si sn p) (L:Cm S si sn p):
  Ac prog 36 [Bo si sn p] w (i9 S M (GE p)):=by
 unfold Ac;have hb:Fs p:=⟨L.li,L.ln,L.lo⟩
 have cE:=fun {M} w (V:St S M w)=>Qd w V si sn p L
 obtain ⟨R,hR⟩:∃ R,GE p=R:=⟨_,rfl⟩
 rw [hR];by_cases he:BH p=0
 ·have hf:=NI he;have hw:=LK hf;have HR:Hid (((AH p (p.2.1.length+1) p.2.2.1 0++i1 16 0 0,D9 p p.2.1.length,p.2.2.2.1),0)=R):=Lib.hid (by rw [← hR,LN he]);have hml:=Kx hw;have cC:=fun {S' M} w (V:St S' M w) cl (hR:Z.R S' cl p)=>Pd w V hb p.2.1.length (Nat.le_refl _) cl hR
  have cM:=fun {S' M} w (V:St S' M w) cl (hR:Z.R S' cl p)=>Wa hw hb w V cl hR
  have cO:=fun {S' M} w (V:St S' M w)=>GA w V 16 0 0 (Ah (by decide)) (Ah (by decide)) (Ah (by decide))
  have cE:=fun {S' M} w (V:St S' M w) cl (hR:Z.R S' cl p)=>fH w V hb cl hR
  rw [he] at cE;have hcb:=QW p p.2.1.length L.li L.ln;have hpr:=Fe L;generalize D9 p p.2.1.length=cn at *;generalize AH p (p.2.1.length+1) p.2.2.1 0=B at *;clear hR he hf L hw;go_enter func36,ntmps36;repeat' ((apply ZZ 1);first|(apply O ();go_step)|(apply sB ();clear V;intro bx w V)|(apply sA ();clear V;intro bk w V)|fail)
  replace V:=St.swap2 V;obtain ⟨S2,hS2,hst2,hpp⟩:=AC (α:=Pg) V hpr rfl;clear V;have V:=hst2;clear hst2 hpr;generalize Value.pointer (some ⟨bx,0,none⟩)=pP at *;repeat' ((apply ZZ 4);first|(apply O ();go_step)|(apply tL ();refine An V (Aw (y:=p) X hpp Y) ?_;rintro v34 ⟨c34,rfl,hc34⟩<;>apply nW ())|(apply kc ();refine sc (cE _ V c34 hc34) ?_;clear V;rintro v w ⟨S3,hS3,rfl,V⟩)|fail)
  have hpp3:=Pt.mono hS3 hpp;clear hpp hc34 cE;refine Bm V kr ?_;clear V;intro w V;have hSS:=Cn V;apply nW ();refine px 0 rfl (Aw (y:=p) X hpp3 Y) ?_;rintro v0 ⟨c0,rfl,hc0⟩;refine px 1 rfl (As X hpp3 Y Y rfl) ?_;rintro v1 hp1;refine px 2 rfl (Aj X hp1 Y) ?_;rintro v2 ⟨hv2,hv21⟩;replace hv2:RSl S3 v2 p.2.1:=hv2;refine pt 3 rfl (EH X hv2 Y) ?_;refine px 5 rfl (As X hpp3 Y Y rfl) ?_;rintro v5 hp5;refine px 6 rfl (Am X hp5 Y) ?_;rintro v6 ⟨rfl,hI6⟩;refine Cp 4 8 rfl rfl kr ?_ ?_;intro K G;refine sc (cC w V c0 (Z.mono hSS hc0)) ?_;clear V;rintro v4 w ⟨rfl,V⟩;refine pn G ?_;clear G K;refine pt 7 rfl (Dc (cs:=[.slice none 0 0,.int .i64 cn,.int .i64 p.2.2.2.1]) Y Y kr) ?_;refine po 8 rfl ?_;intro K G;refine BF V Y ?_;clear V;intro b8 w V;(try replace V:=nH V);refine pn G ?_;clear G K;refine po 9 rfl ?_;intro K G;(refine Ax V rfl _ N.h Y X rfl A3 A2 (by simp<;>omega) ?_);clear V;intro w V;(try replace V:=nH V);refine pn G ?_;clear G K;refine AK kr ?_;rotate_left;intro K G;refine BF V Y ?_;clear V;intro b8 w V;(try replace V:=nH V);refine pn G ?_;clear G K;refine po 4 rfl ?_;intro K G;refine sc (cC w V c0 (Z.mono hSS hc0)) ?_;clear V;rintro v4 w ⟨rfl,V⟩;refine pn G ?_;clear G K;refine pt 7 rfl (Dc (cs:=[.slice none 0 0,.int .i64 cn,.int .i64 p.2.2.2.1]) Y Y kr) ?_
  refine po 9 rfl ?_;intro K G;(refine Ax V rfl _ N.h Y X rfl A3 A2 (by simp<;>omega) ?_);clear V;intro w V;(try replace V:=nH V);refine pn G ?_;clear G K;refine AK kr ?_;rotate_left
  all_goals
   clear cC cE;repeat' (first|(apply O ();go_step)|(apply tL ();refine An V (Aw (y:=p) X hpp3 Y) ?_;rintro v44 ⟨c44,rfl,hc44⟩<;>apply nW ())|(apply kc ();refine sc (cM _ V c44 hc44) ?_;clear V;rintro v w ⟨S4,so4,co4,hS4,rfl,hC4,V⟩)|(apply kc ();refine sc (cO _ V) ?_;clear V;rintro v w ⟨S5,so5,hS5,rfl,hX5,V⟩)|(apply sN ();intro hI)|(apply sI ();intro v L)|fail)
   refine Bj (α:=Fg) V X X SlIn.h hX5 Y Y Y (by show (B.length+1) * _≤_;omega) (by show B.length+1≤_;omega) (by decide) ?_;clear V;intro x w d hd V;obtain ⟨S6,hS6,hst2,hX6⟩:=St.freeze (α:=Fg) (xs:=B++i1 16 0 0) V ((hC4.mono hS5).append hd) (by rw [List.length_append]);clear V;have V:=hst2;clear hst2;obtain ⟨a6,n6,k6,rfl⟩:=BQ hX6;apply nW ();repeat' (first|(apply O ();go_step)|apply sX ()|(apply sS ();clear V;intro w V)|fail)
   apply vZ ();(try simp only [AV,List.drop_zero,List.drop_succ_cons,List.take_succ_cons,List.take_zero,AB,Ap]);exact ⟨_,rfl,S6,(a6,n6,k6),hS2.trans (hS3.trans (hSS.trans (hS4.trans (hS5.trans hS6)))),by rw [← HR.out],by rw [← HR.out];exact hX6,V.sub⟩
 ·have HR:Hid ((([],0,0),BH p)=R):=Lib.hid (by rw [← hR,QU he]);generalize BH p=e at *;have hz:(e != 0)=true:=bne_iff_ne.2 he;clear hR he;go_enter func36,ntmps36;repeat' (first|apply sK ()|(apply O ();go_step)|(apply kc ();refine sc (cE _ V) ?_;clear V;rintro v w ⟨S1,hS1,rfl,V⟩)|apply sX ()|(apply sS ();clear V;intro w V)|(apply sB ();clear V;intro bx w V)|(apply sA ();clear V;intro bk w V)|fail)
  apply vZ ();(try simp only [AV,List.drop_zero,List.drop_succ_cons,List.take_succ_cons,List.take_zero,AB,Ap]);exact ⟨_,rfl,S1,(none,0,0),hS1,by rw [← HR.out],by rw [← HR.out];exact Yk,V.sub⟩
theorem UL {c ins gl r} (hr:H3 c ins gl=r):r.1.1.length≤8∧r.1.2.1.length≤3000:=by
 subst hr;unfold H3
 cases hv:Em c ins with
 | false=>rw [if_neg (by simp)];exact ⟨Nat.zero_le _,Nat.zero_le _⟩
 | true =>
  rw [if_pos rfl];have g0:=MV hv
  have h8:c.2.2.1≤8:=by
   unfold Em at hv;simp only [Bool.and_eq_true,decide_eq_true_eq,List.all_eq_true] at hv;exact hv.1.1.1.2
  cases e:F7 c gl 3001 (C3 c ins) with
  | err k=>exact ⟨Nat.zero_le _,Nat.zero_le _⟩
  | ok t =>
   have g2:=PQ (gl:=gl) 3001 (C3 c ins) g0 (Nat.le_add_right _ _);rw [e] at g2;have g:=g2.1;have h1:=g.plen;have h2:=g.nlen;have h3:=g.steps;refine ⟨?_,?_⟩
   ·show t.pts.length≤8;omega
   ·show t.notes.length≤3000;omega
theorem Qs (bs:List UInt8):∀ (xs:List Ip) (i:Nat),(Ef bs xs i).length=xs.length
 | [],_=>rfl
 | d::r,i=>by rw [Ef,List.length_cons,List.length_cons,Qs bs r]
def UI (e:Ev):Prop:=e.2.1.length≤6∧e.2.2.1.length≤8∧e.2.2.2.1.length≤3000
theorem WU {p} (h:BH p=0):p.1.length≤6:=by
 by_cases hn:p.1.length≤6
 ·exact hn
 ·exfalso;unfold BH at h;simp only at h;split at h
  ·cases h
  ·split at h
   ·cases h
   ·split at h
    ·cases h
    ·rw [if_pos (.inr (.inl (by omega)))] at h;cases h
theorem eT {x p ins o} (h:GN x=some (p,ins,o)):ins.length≤6∧o.1.length≤8∧o.2.1.length≤3000:=by
 unfold GN at h;split at h
 ·cases h
 ·rename_i h0;split at h
  ·cases h
  ·cases h
   have hk:BH (Cq x.1.b).1=0:=by
    have h1:=not_or.1 h0;have h2:=not_or.1 h1.2;exact Decidable.of_not_not h2.2
   refine ⟨?_,(UL rfl).1,(UL rfl).2⟩;rw [Qs];exact WU hk
theorem MH:∀ (l:List Rn) (k:Nat) (a:List Pg×List Ev),(∀ e∈a.2,UI e)→∀ e∈(Du l k a).2,UI e
 | [],k,a,h=>h
 | x::r,k,a,h=>by
  rw [Du];split
  ·exact h
  ·split
   ·exact MH r (k+1) a h
   ·rename_i p ins o hq;refine MH r (k+1) _ fun e he=>?_
    rcases List.mem_append.1 he with he|he
    ·exact h e he
    ·rw [List.mem_singleton] at he;subst he;exact eT hq
theorem dZ (l):(F2 l).1.length=(F2 l).2.length∧(F2 l).2.length≤4∧∀ e∈(F2 l).2,UI e:=by
 have h:=Lp l 0 ([],[]) rfl (Nat.zero_le _);refine ⟨h.1,?_,MH l 0 ([],[]) fun e he=>by cases he⟩;have h2:=h.2;have h1:=h.1;unfold F2;omega
theorem iY {e} (h:UI e):JD e:=⟨by have:=h.1;omega,by have:=h.2.1;omega,by have:=h.2.2;omega⟩
abbrev uB:=Int×Int
def uK (rec:Int→List (List uB)):List Int→List (List uB)
 | []=>[]
 | o::os=>rec o++uK rec os
def uy (ns:List Nd):Nat→Int→List uB→List (List uB)
 | 0,_,_=>[]
 | f+1,k,st =>
   let n:=Az ns k
   if n.1=1 then [st]
   else if n.1=2 then [st]
   else if n.1=12 then
    if n.2.2.2.1.length=2 then uy ns f (AU n 0) st++st::uy ns f (AU n 1) ((n.2.1,1)::st)
    else uy ns f (AU n 0) st++st::(uy ns f (AU n 1) ((n.2.1,1)::st)++((n.2.1,1)::st)::uy ns f (AU n 2) ((n.2.1,2)::st))
   else if n.1=13 then st::st::(uy ns f (AU n 0) st++[st])
   else if n.1=15 then [st]
   else if n.1=16 then [st]
   else uK (fun o=>uy ns f o st) n.2.2.2.1++(if n.1=17 then [] else [st])
def uI (rec:Int→Int→List Fg):List Int→Int→List Fg
 | [],_=>[]
 | o::os,p=>rec o p++uI rec os (p+(rec o p).length)
theorem vc (rec:Int→Int→List Fg):∀ (os:List Int) (pos:Int) (out:List Fg),Bz rec os pos out=out++uI rec os (pos+out.length)
 | [],pos,out=>by rw [Bz,uI,List.append_nil]
 | o::os,pos,out=>by
  rw [Bz,vc rec os,uI,List.append_assoc,List.length_append]
  congr 3
  omega
def uM (Nqq:Int→List uB) (pos:Int) (l:List (List uB)):Prop:=∀ (i:Nat) (h:i < l.length),Nqq (pos+i)=l[i]
theorem uM.left {Nqq pos a b} (h:uM Nqq pos (a++b)):uM Nqq pos a:=fun i hi=>by
 rw [h i (by rw [List.length_append];omega),List.getElem_append_left hi]
theorem uM.right {Nqq pos a b} (h:uM Nqq pos (a++b)):uM Nqq (pos+a.length) b:=fun i hi=>by
 have:=h (a.length+i) (by rw [List.length_append];omega);rw [List.getElem_append_right (by omega)] at this;rw [show pos+(a.length:Int)+(i:Int)=pos+((a.length+i:Nat):Int) from by omega,this];simp
theorem uM.hd {Nqq pos a b} (h:uM Nqq pos (a::b)):Nqq pos=a:=by
 have:=h 0 (by simp)
 simpa using this
theorem uM.tl {Nqq pos a b} (h:uM Nqq pos (a::b)):uM Nqq (pos+1) b:=by
 have:=uM.right (a:=[a]) (b:=b) h
 simpa using this
def uO (en:Int→uB) (Nqq:Int→List uB) (pos:Int) (x:Fg):Prop :=
 (x.1=12→(Nqq pos).headD (-1,0)=en x.2.2.1∧(∀ e∈Nqq (pos+1),e∈(x.2.2.1,1)::Nqq pos)∧∀ e∈Nqq x.2.1,e∈(x.2.2.1,2)::Nqq pos) ∧
 (x.1=13→∀ e∈Nqq x.2.1,e∈Nqq pos)∧(x.1=17→∀ e∈Nqq x.2.2.1,e∈Nqq pos) ∧
 (x.1≠12→x.1≠13→x.1≠15→x.1≠16→∀ e∈Nqq (pos+1),e∈Nqq pos)
def uF (en:Int→uB) (Nqq:Int→List uB) (pos:Int) (l:List Fg):Prop:=∀ (i:Nat) (h:i < l.length),uO en Nqq (pos+i) l[i]
theorem uF.app {en Nqq pos a b} (h1:uF en Nqq pos a) (h2:uF en Nqq (pos+a.length) b):uF en Nqq pos (a++b):=fun i hi=>by
 by_cases h:i < a.length
 ·rw [List.getElem_append_left h];exact h1 i h
 ·rw [List.getElem_append_right (by omega)];have:=h2 (i - a.length) (by rw [List.length_append] at hi;omega);rw [show pos+(a.length:Int)+((i - a.length:Nat):Int)=pos+i from by omega] at this;exact this
theorem uF.nil {en Nqq pos}:uF en Nqq pos []:=fun i hi=>absurd hi (by simp)
theorem uF.one {en Nqq pos op a b} (h:uO en Nqq pos (op,a,b,())):uF en Nqq pos (i1 op a b):=fun i hi=>by
 obtain rfl:i=0:=by unfold i1 at hi;simp at hi;exact hi
 simpa [i1] using h
theorem uO.plain {en Nqq pos op a b} (h:op≠12∧op≠13∧op≠17) (hn:op=15∨op=16∨∀ e∈Nqq (pos+1),e∈Nqq pos):uO en Nqq pos (op,a,b,()) :=
 ⟨fun e=>absurd e h.1,fun e=>absurd e h.2.1,fun e=>absurd e h.2.2,fun _ _ h5 h6=>by
  rcases hn with h|h|h
  ·exact absurd h h5
  ·exact absurd h h6
  ·exact h⟩
theorem uO.br {en Nqq pos a b} (h1:(Nqq pos).headD (-1,0)=en b) (h2:∀ e∈Nqq (pos+1),e∈(b,1)::Nqq pos) (h3:∀ e∈Nqq a,e∈(b,2)::Nqq pos):uO en Nqq pos (12,a,b,()) :=
 ⟨fun _=>⟨h1,h2,h3⟩,fun h=>absurd h (show ¬ ((12:Int)=13) by decide),fun h=>absurd h (show ¬ ((12:Int)=17) by decide),fun h=>absurd rfl h⟩
theorem uO.jmp {en Nqq pos a b} (h:∀ e∈Nqq a,e∈Nqq pos):uO en Nqq pos (13,a,b,()) :=
 ⟨fun h=>absurd h (show ¬ ((13:Int)=12) by decide),fun _=>h,fun h=>absurd h (show ¬ ((13:Int)=17) by decide),fun _ h=>absurd rfl h⟩
theorem uO.rep {en Nqq pos a b} (h:∀ e∈Nqq b,e∈Nqq pos) (h2:∀ e∈Nqq (pos+1),e∈Nqq pos):uO en Nqq pos (17,a,b,()) :=
 ⟨fun h=>absurd h (show ¬ ((17:Int)=12) by decide),fun h=>absurd h (show ¬ ((17:Int)=13) by decide),fun _=>h,fun _ _ _ _=>h2⟩
theorem uV {a b c}:(i1 a b c).length=1:=rfl
def uE (st:List uB) (l:List (List uB)):Prop:=∀ x r,l=x::r→x=st
theorem uE.cons {st l}:uE st (st::l):=fun x r h=>by cases h;rfl
theorem uE.nil {st}:uE st []:=fun x r h=>by cases h
theorem uE.app {st a b} (h1:uE st a) (h2:uE st b):uE st (a++b):=fun x r h=>by
 cases a with
 | nil=>exact h2 x r h
 | cons y a=>cases h;exact h1 _ _ rfl
theorem uH {Nqq pos st l} (h:uM Nqq pos l) (hh:uE st l) (he:∀ e∈Nqq (pos+l.length),e∈st):∀ e∈Nqq pos,e∈st:=by
 cases l with
 | nil=>simpa using he
 | cons x l=>rw [h.hd,hh x l rfl];exact fun e h=>h
theorem vD {rec:Int→List (List uB)} {st:List uB} (h:∀ o,uE st (rec o)):∀ os,uE st (uK rec os)
 | []=>uE.nil
 | o::os=>(h o).app (vD h os)
theorem uJ (ns:List Nd):∀ (f:Nat) (k:Int) (st:List uB),uE st (uy ns f k st)
 | 0,k,st=>uE.nil
 | f+1,k,st=>by
  rw [uy];generalize Az ns k=n;split
  ·exact uE.cons
  split
  ·exact uE.cons
  split
  ·split
   ·exact (uJ ns f _ st).app uE.cons
   ·exact (uJ ns f _ st).app uE.cons
  split
  ·exact uE.cons
  split
  ·exact uE.cons
  split
  ·exact uE.cons
  ·refine (vD (fun o=>uJ ns f o st) _).app ?_;split
   ·exact uE.nil
   ·exact uE.cons
theorem ve {rec:Int→List (List uB)} {rmq0:Int→Int→List Fg} (h:∀ o q,(rmq0 o q).length=(rec o).length):∀ os pos,(uI rmq0 os pos).length=(uK rec os).length
 | [],pos=>rfl
 | o::os,pos=>by rw [uI,uK,List.length_append,List.length_append,h,ve h os]
theorem uz (p:Pg):∀ (f:Nat) (k:Int) (st:List uB) (pos:Int),(AH p f k pos).length=(uy p.2.1 f k st).length
 | 0,k,st,pos=>rfl
 | f+1,k,st,pos=>by
  rw [AH,uy];simp only [vc,List.nil_append,List.length_nil];generalize Az p.2.1 k=n;split
  ·rfl
  split
  ·rfl
  split
  ·split
   ·simp only [i1,List.length_append,List.length_cons,List.length_nil];rw [uz p f (AU n 0) st pos,uz p f (AU n 1) ((n.2.1,1)::st)];omega
   ·simp only [i1,List.length_append,List.length_cons,List.length_nil];rw [uz p f (AU n 0) st pos,uz p f (AU n 1) ((n.2.1,1)::st),uz p f (AU n 2) ((n.2.1,2)::st)];omega
  split
  ·simp only [i1,List.length_append,List.length_cons,List.length_nil];rw [uz p f (AU n 0) st];omega
  split
  ·rfl
  split
  ·rfl
  ·have hl:=ve (rec:=fun o=>uy p.2.1 f o st) (rmq0:=AH p f) (fun o q=>uz p f o st q) n.2.2.2.1;split
   ·rename_i h11;rw [if_neg (by omega),List.length_append,List.length_append,hl];rfl
   split
   ·rename_i h14;rw [if_neg (by omega),List.length_append,List.length_append,hl];rfl
   split
   ·rw [List.length_append,hl];rfl
   ·rw [List.length_append,List.length_append,hl];rfl
theorem vM {rec:Int→Int×Int→List (Int×(Int×Int))} {pt:Bool} {n:Int} {ar:Int×Int} {x:Int×(Int×Int)}:∀ (os:List Int) (i j:Nat),j < os.length→x∈rec (os.getD j 0) (GC pt n ar (i+j))→x∈wd rec pt n ar i os
 | [],i,j,h,hx=>by simp at h
 | o::os,i,0,h,hx=>List.mem_append.2 (.inl hx)
 | o::os,i,j+1,h,hx=>List.mem_append.2 (.inr (vM os (i+1) j (by simpa using h) (by rw [show i+1+j=i+(j+1) from by omega];exact hx)))
section
variable {p:Pg} {en:Int→uB} {Nqq:Int→List uB}
abbrev vj (p:Pg) (en:Int→uB) (Nqq:Int→List uB) (f:Nat) (k:Int) (st:List uB):Prop:=∀ pos,uM Nqq pos (uy p.2.1 f k st)→(∀ e∈Nqq (pos+(uy p.2.1 f k st).length),e∈st)→uF en Nqq pos (AH p f k pos)
theorem vN {f:Nat} {st:List uB}:∀ (os:List Int) (pos:Int),(∀ o∈os,vj p en Nqq f o st)→uM Nqq pos (uK (fun o=>uy p.2.1 f o st) os)→(∀ e∈Nqq (pos+(uK (fun o=>uy p.2.1 f o st) os).length),e∈st)→uF en Nqq pos (uI (AH p f) os pos)
 | [],pos,H,h,he=>uF.nil
 | o::os,pos,H,h,he=>by
  rw [uK] at h he;rw [List.length_append] at he;rw [uI]
  have e1:∀ e∈Nqq (pos+(uy p.2.1 f o st).length+(uK (fun o=>uy p.2.1 f o st) os).length),e∈st:=by
   rw [show pos+((uy p.2.1 f o st).length:Int)+((uK (fun o=>uy p.2.1 f o st) os).length:Int)=pos+(((uy p.2.1 f o st).length+(uK (fun o=>uy p.2.1 f o st) os).length:Nat):Int) from by omega];exact he
  refine (H o (List.mem_cons_self ..) pos h.left (uH h.right (vD (fun o=>uJ p.2.1 f o st) os) e1)).app ?_;rw [uz p f o st];exact vN os _ (fun o ho=>H o (List.mem_cons_of_mem _ ho)) h.right e1
theorem wi (hw:Cl p):∀ (f:Nat) (k:Int) (st:List uB),0≤k→k < p.2.1.length→(∀ x∈uW p.2.1 f k (st.headD (-1,0)),en x.1=x.2)→vj p en Nqq f k st
 | 0,k,st,hk0,hk,hc,pos,h,he=>uF.nil
 | f+1,k,st,hk0,hk,hc,pos,h,he=>by
  have hnd:=hw.nd k hk0 hk
  have kid:∀ (j:Nat) (st':List uB),j < (Az p.2.1 k).2.2.2.1.length→st'.headD (-1,0)=GC (decide ((Az p.2.1 k).1=12)) (Az p.2.1 k).2.1 (st.headD (-1,0)) j→vj p en Nqq f (AU (Az p.2.1 k) j) st':=fun j st' hj hs=>by
   obtain ⟨a,b,c⟩:=hnd.ofs j hj;refine wi hw f _ st' a (by omega) fun x hx=>hc x ?_
   rw [uW];refine List.mem_append.2 (.inr (vM _ 0 j hj ?_));rw [Nat.zero_add,← hs];exact hx
  have hlen:=hnd.len;have meq0:(Az p.2.1 k).1=12→en (Az p.2.1 k).2.1=st.headD (-1,0):=fun e=>hc ((Az p.2.1 k).2.1,st.headD (-1,0)) (by rw [uW,if_pos e];exact List.mem_append.2 (.inl (List.mem_singleton.2 rfl)))
  clear hc;rw [uy] at h he;rw [AH];simp only [vc,List.nil_append,List.length_nil] at h he ⊢;generalize Az p.2.1 k=n at *;clear hnd;by_cases k1:n.1=1
  ·rw [if_pos k1] at h he ⊢;exact .one (.plain (by omega) (.inr (.inr (by rw [h.hd];simpa using he))))
  rw [if_neg k1] at h he ⊢;by_cases k2:n.1=2
  ·rw [if_pos k2] at h he ⊢;exact .one (.plain (by omega) (.inr (.inr (by rw [h.hd];simpa using he))))
  rw [if_neg k2] at h he ⊢;by_cases k12:n.1=12
  ·rw [if_pos k12] at h he ⊢;rw [decide_eq_true k12] at kid;have meq0:=meq0 k12;by_cases kl:n.2.2.2.1.length=2
   ·rw [if_pos kl] at h he ⊢;have s0q0:=kid 0 st (by omega) rfl;have s1:=kid 1 ((n.2.1,1)::st) (by omega) rfl;have h0:=h.left;have hm:=h.right.hd;have h1:=h.right.tl;have l0:=uz p f (AU n 0) st pos;have l1:=uz p f (AU n 1) ((n.2.1,1)::st) (pos+(AH p f (AU n 0) pos).length+1);have g1:=uJ p.2.1 f (AU n 1) ((n.2.1,1)::st);unfold vj at s0q0 s1;generalize uy p.2.1 f (AU n 0) st=A0q0 at *;generalize uy p.2.1 f (AU n 1) ((n.2.1,1)::st)=A1q0 at *;rw [l0] at l1 ⊢;rw [l1]
    have he:∀ e∈Nqq (pos+(A0q0.length:Int)+1+(A1q0.length:Int)),e∈st:=by
     rwa [show pos+((A0q0++st::A1q0).length:Int)=pos+(A0q0.length:Int)+1+(A1q0.length:Int) from by rw [List.length_append,List.length_cons];omega] at he
    have e1:∀ e∈Nqq (pos+(A0q0.length:Int)+1),e∈(n.2.1,1)::st:=uH h1 g1 fun e h=>List.mem_cons_of_mem _ (he e h)
    refine ((s0q0 pos h0 (fun e h=>by rw [hm] at h;exact h)).app (.one ?_)).app ?_
    ·rw [l0];exact .br (by rw [hm];exact meq0.symm) (by rw [hm];exact e1) (by rw [hm];exact fun e h=>List.mem_cons_of_mem _ (he e h))
    ·rw [List.length_append,l0,uV,show pos+((A0q0.length+1:Nat):Int)=pos+(A0q0.length:Int)+1 from by omega];exact s1 _ h1 fun e h=>List.mem_cons_of_mem _ (he e h)
   ·rw [if_neg kl] at h he ⊢
    have kl3:n.2.2.2.1.length=3:=by
     unfold EW at hlen;rw [if_neg (by omega),if_neg (by omega),if_pos k12] at hlen;split at hlen
     ·assumption
     ·exact absurd hlen.symm kl
    have s0q0:=kid 0 st (by omega) rfl;have s1:=kid 1 ((n.2.1,1)::st) (by omega) rfl;have s2:=kid 2 ((n.2.1,2)::st) (by omega) rfl;have h0:=h.left;have hm:=h.right.hd;have h1:=h.right.tl.left;have hm2:=h.right.tl.right.hd;have h2:=h.right.tl.right.tl;have l0:=uz p f (AU n 0) st pos;have l1:=uz p f (AU n 1) ((n.2.1,1)::st) (pos+(AH p f (AU n 0) pos).length+1);have l2:=uz p f (AU n 2) ((n.2.1,2)::st) (pos+(AH p f (AU n 0) pos).length+1+(AH p f (AU n 1) (pos+(AH p f (AU n 0) pos).length+1)).length+1);have g1:=uJ p.2.1 f (AU n 1) ((n.2.1,1)::st);have g2:=uJ p.2.1 f (AU n 2) ((n.2.1,2)::st);unfold vj at s0q0 s1 s2;generalize uy p.2.1 f (AU n 0) st=A0q0 at *;generalize uy p.2.1 f (AU n 1) ((n.2.1,1)::st)=A1q0 at *;generalize uy p.2.1 f (AU n 2) ((n.2.1,2)::st)=A2q0 at *;rw [l0] at l1 l2 ⊢;rw [l1] at l2 ⊢;rw [l2]
    have he:∀ e∈Nqq (pos+(A0q0.length:Int)+1+(A1q0.length:Int)+1+(A2q0.length:Int)),e∈st:=by
     rwa [show pos+((A0q0++st::(A1q0++((n.2.1,1)::st)::A2q0)).length:Int)=pos+(A0q0.length:Int)+1+(A1q0.length:Int)+1+(A2q0.length:Int) from by rw [List.length_append,List.length_cons,List.length_append,List.length_cons];omega] at he
    have e1:∀ e∈Nqq (pos+(A0q0.length:Int)+1),e∈(n.2.1,1)::st:=uH h1 g1 fun e h=>by rw [hm2] at h;exact h
    have e2:∀ e∈Nqq (pos+(A0q0.length:Int)+1+(A1q0.length:Int)+1),e∈(n.2.1,2)::st:=uH h2 g2 fun e h=>List.mem_cons_of_mem _ (he e h)
    refine ((((s0q0 pos h0 (fun e h=>by rw [hm] at h;exact h)).app (.one ?_)).app ?_).app (.one ?_)).app ?_
    ·rw [l0];exact .br (by rw [hm];exact meq0.symm) (by rw [hm];exact e1) (by rw [hm];exact e2)
    ·rw [List.length_append,l0,uV,show pos+((A0q0.length+1:Nat):Int)=pos+(A0q0.length:Int)+1 from by omega];exact s1 _ h1 fun e h=>by rw [hm2] at h;exact h
    ·rw [List.length_append,List.length_append,l0,l1,uV,show pos+((A0q0.length+1+A1q0.length:Nat):Int)=pos+(A0q0.length:Int)+1+(A1q0.length:Int) from by omega];exact .jmp (by rw [hm2];exact fun e h=>List.mem_cons_of_mem _ (he e h))
    ·rw [List.length_append,List.length_append,List.length_append,l0,l1,uV,uV,show pos+((A0q0.length+1+A1q0.length+1:Nat):Int)=pos+(A0q0.length:Int)+1+(A1q0.length:Int)+1 from by omega];exact s2 _ h2 fun e h=>List.mem_cons_of_mem _ (he e h)
  rw [if_neg k12] at h he ⊢;rw [decide_eq_false k12] at kid;by_cases k13:n.1=13
  ·rw [if_pos k13] at h he ⊢
   have hl1:n.2.2.2.1.length=1:=by
    unfold EW at hlen;rw [if_neg (by omega),if_neg (by omega),if_neg k12,if_pos k13] at hlen;exact hlen.symm
   have s0q0:=kid 0 st (by omega) rfl;have ha:=h.hd;have hb:=h.tl.hd;have h0:=h.tl.tl.left;have hc:=h.tl.tl.right.hd;have l0:=uz p f (AU n 0) st (pos+2);have g0:=uJ p.2.1 f (AU n 0) st;unfold vj at s0q0;rw [show pos+1+1=pos+2 from by omega] at h0 hc;generalize uy p.2.1 f (AU n 0) st=A0q0 at *
   have he:∀ e∈Nqq (pos+2+(A0q0.length:Int)+1),e∈st:=by
    rwa [show pos+((st::st::(A0q0++[st])).length:Int)=pos+2+(A0q0.length:Int)+1 from by rw [List.length_cons,List.length_cons,List.length_append,List.length_singleton];omega] at he
   have x0:∀ e∈Nqq (pos+2+(A0q0.length:Int)),e∈st:=fun e h=>by rw [hc] at h;exact h
   have e0:=uH h0 g0 x0;refine (((uF.one (.plain (by omega) (.inr (.inr ?_)))).app (.one (.plain (by omega) (.inr (.inr ?_))))).app ?_).app (.one ?_)
   ·rw [ha,hb];exact fun e h=>h
   ·rw [show pos+((i1 1 n.2.1 0).length:Int)=pos+1 from rfl,hb,show pos+1+1=pos+2 from by omega];exact e0
   ·rw [show pos+((i1 1 n.2.1 0++i1 3 (D9 p k.toNat) 0).length:Int)=pos+2 from rfl];exact s0q0 _ h0 x0
   ·rw [show pos+((i1 1 n.2.1 0++i1 3 (D9 p k.toNat) 0++AH p f (AU n 0) (pos+2)).length:Int)=pos+2+(A0q0.length:Int) from by rw [List.length_append,l0,show (i1 1 n.2.1 0++i1 3 (D9 p k.toNat) 0).length=2 from rfl];omega];exact .rep (by rw [hc];exact e0) (by rw [hc];exact he)
  rw [if_neg k13] at h he ⊢;by_cases k15:n.1=15
  ·rw [if_pos k15] at h he ⊢;exact .one (.plain (by omega) (.inl rfl))
  rw [if_neg k15] at h he ⊢;by_cases k16:n.1=16
  ·rw [if_pos k16] at h he ⊢;exact .one (.plain (by omega) (.inr (.inl rfl)))
  rw [if_neg k16] at h he ⊢
  have H:∀ o∈n.2.2.2.1,vj p en Nqq f o st:=fun o ho=>by
   obtain ⟨j,hj,rfl⟩:=List.getElem_of_mem ho;have:=kid j st hj (by unfold GC;rw [if_neg (by simp),if_neg (by simp)]);unfold AU at this;rw [List.getD_eq_getElem?_getD,List.getElem?_eq_getElem hj] at this;exact this
  have hl:=ve (rec:=fun o=>uy p.2.1 f o st) (rmq0:=AH p f) (fun o q=>uz p f o st q) n.2.2.2.1;have h0:=h.left;have K:=vN (p:=p) (en:=en) (Nqq:=Nqq) (f:=f) (st:=st) n.2.2.2.1 pos H h0;by_cases k17:n.1=17
  ·rw [if_pos k17,List.append_nil] at he;rw [if_neg (by omega),if_neg (by omega),if_pos k17];rw [show pos+((0:Nat):Int)=pos from by omega];exact K he
  ·rw [if_neg k17] at h he;have hm:=h.right.hd;have x0:∀ e∈Nqq (pos+((uK (fun o=>uy p.2.1 f o st) n.2.2.2.1).length:Int)),e∈st:=fun e h=>by rw [hm] at h;exact h
   have last:∀ op a b,op≠12∧op≠13∧op≠17→uF en Nqq pos (uI (AH p f) n.2.2.2.1 (pos+((0:Nat):Int))++i1 op a b):=fun op a b ho=>by
    rw [show pos+((0:Nat):Int)=pos from by omega];refine (K x0).app (.one (.plain ho (.inr (.inr ?_))));rw [hl,hm];rwa [List.length_append,List.length_singleton,show pos+(((uK (fun o=>uy p.2.1 f o st) n.2.2.2.1).length+1:Nat):Int)=pos+((uK (fun o=>uy p.2.1 f o st) n.2.2.2.1).length:Int)+1 from by omega] at he
   by_cases k11:n.1=11
   ·rw [if_pos k11];exact last _ _ _ (by omega)
   rw [if_neg k11];by_cases k14:n.1=14
   ·rw [if_pos k14];exact last _ _ _ (by omega)
   rw [if_neg k14,if_neg k17];refine last _ _ _ ?_
   have:∀ i:Nat,Kl.getD i 0≠12∧Kl.getD i 0≠13∧Kl.getD i 0≠17:=fun i=>by
    by_cases hi:i < 11
    ·revert i;decide
    ·rw [List.getD_eq_getElem?_getD,List.getElem?_eq_none (by simpa [Kl] using hi)];decide
   exact this _
end
def vL (pts:List Int) (e:uB):Prop:=(e.2=1∨e.2=2)∧(pts.getD e.1.toNat 0=e.2∨pts.getD e.1.toNat 0=3)
theorem vS {v s} (hv:0≤v∧v≤3) (hs:s=1∨s=2):(GH v s=s∨GH v s=3)∧(v=1∨v=2∨v=3→GH v s=v∨GH v s=3)∧0≤GH v s∧GH v s≤3:=by
 obtain rfl|rfl|rfl|rfl:v=0∨v=1∨v=2∨v=3:=by omega
 all_goals obtain rfl|rfl:=hs
 all_goals decide
structure uG (en:Int→uB) (Nqq:Int→List uB) (s:VS):Prop where
 at_:s.done=true∨∀ e∈Nqq s.pc,vL s.pts e
 rng:∀ i:Nat,0≤s.pts.getD i 0∧s.pts.getD i 0≤3
 ok:∀ i:Nat,i < s.pts.length→s.pts.getD i 0≠0→en i=(-1,0)∨vL s.pts (en i)
section
variable {en:Int→uB} {Nqq:Int→List uB} {s t:VS}
theorem uG.keep (h:uG en Nqq s) (hd:s.done=false) (h1:t.pts=s.pts) (h2:t.done=true∨∀ e∈Nqq t.pc,e∈Nqq s.pc):uG en Nqq t:=by
 refine ⟨?_,fun i=>by rw [h1];exact h.rng i,fun i=>by rw [h1];exact h.ok i⟩;rcases h2 with h2|h2
 ·exact .inl h2
 ·refine .inr fun e he=>?_
  rw [h1];rcases h.at_ with h3|h3
  ·rw [hd] at h3;cases h3
  ·exact h3 e (h2 e he)
theorem vL.mono {pts i e sdq0} (h:vL pts e) (hr:∀ i:Nat,0≤pts.getD i 0∧pts.getD i 0≤3) (hs:sdq0=1∨sdq0=2):vL (pts.set i (GH (pts.getD i 0) sdq0)) e:=by
 refine ⟨h.1,?_⟩;rw [uA];by_cases hi:i=e.1.toNat∧i < pts.length
 ·rw [if_pos hi,hi.1];have h2:=h.2;have h1:=h.1;rcases (vS (hr e.1.toNat) hs).2.1 (by omega) with h3|h3
  ·rw [h3];exact h.2
  ·exact .inr h3
 ·rw [if_neg hi];exact h.2
theorem uG.branch (h:uG en Nqq s) (hd:s.done=false) {b sdq0} (hs:sdq0=1∨sdq0=2) (hb0:0≤b) (hb:b.toNat < s.pts.length) (hen:(Nqq s.pc).headD (-1,0)=en b) (h1:t.pts=C6 s.pts b (GH (s.pts.getD b.toNat 0) sdq0)) (h2:∀ e∈Nqq t.pc,e∈(b,sdq0)::Nqq s.pc):uG en Nqq t:=by
 have hat:∀ e∈Nqq s.pc,vL s.pts e:=by
  rcases h.at_ with h3|h3
  ·rw [hd] at h3;cases h3
  ·exact h3
 unfold C6 at h1;have ovq0:=vS (h.rng b.toNat) hs;refine ⟨.inr fun e he=>?_,fun i=>?_,fun i hi h0=>?_⟩
 ·rw [h1];rcases List.mem_cons.1 (h2 e he) with rfl|hm
  ·refine ⟨hs,?_⟩;rw [uA,if_pos ⟨rfl,hb⟩];exact ovq0.1
  ·exact (hat e hm).mono h.rng hs
 ·rw [h1,uA];split
  ·exact ovq0.2.2
  ·exact h.rng i
 ·rw [h1] at h0 hi ⊢;rw [List.length_set] at hi;by_cases hbi:b.toNat=i
  ·have:en i=en b:=by congr 1;omega
   rw [this,← hen]
   cases hn:Nqq s.pc with
   | nil=>exact .inl rfl
   | cons e r=>exact .inr ((hat e (by rw [hn];exact List.mem_cons_self ..)).mono h.rng hs)
  ·rw [uA,if_neg (fun e=>hbi e.1)] at h0;rcases h.ok i hi h0 with h3|h3
   ·exact .inl h3
   ·exact .inr (h3.mono h.rng hs)
theorem uG.push (h:uG en Nqq s) (hd:s.done=false) {u v} (hu:u.pts=s.pts) (L:∀ e∈Nqq u.pc,e∈Nqq s.pc) (hr:Cc u v=.ok t):uG en Nqq t:=by
 unfold Cc at hr;split at hr
 ·cases hr;exact h.keep hd hu (.inr L)
 ·cases hr
theorem wh {c gl} (hc:uF en Nqq 0 c.1) (hpl:s.pts.length=c.2.2.1.toNat) (h:uG en Nqq s) (hd:s.done=false) (hr:Fp c gl s=.ok t):uG en Nqq t:=by
 unfold Fp at hr;split at hr
 ·split at hr
  ·rename_i hpc;split at hr
   ·have hi:=hc s.pc.toNat (by omega)
    have e1:c.1[s.pc.toNat]'(by omega)=GV c s.pc:=by
     unfold GV;rw [List.getD_eq_getElem?_getD,List.getElem?_eq_getElem (by omega)];rfl
    rw [e1,show (0:Int)+(s.pc.toNat:Int)=s.pc from by omega] at hi;generalize GV c s.pc=i at *;obtain ⟨i12,i13,i17,iel⟩:=hi;have hu:(BO s).pts=s.pts:=rfl;have hupc:(BO s).pc=s.pc+1:=rfl;have hud:(BO s).done=s.done:=rfl;generalize hus:BO s=u at *;have pk:i.1 < 12∨i.1=14∨16 < i.1→∀ e∈Nqq u.pc,e∈Nqq s.pc:=fun q=>by rw [hupc];exact iel (by omega) (by omega) (by omega) (by omega)
    have erq0:∀ k,VR.err k=.ok t→uG en Nqq t:=fun k e=>by cases e
    revert hr
    refine Jl (m:=fun r=>r=.ok t→uG en Nqq t) (fun _=>h.push hd hu (pk (by omega))) (fun _=>?_) (fun _=>?_) (fun _ _ _ _=>?_) (fun _=>?_) (fun a=>?_) (fun a hr=>by cases hr;exact h.keep hd hu (.inr (i13 a))) (fun _=>?_) (fun _ hr=>by cases hr;exact h.keep hd hu (.inl rfl)) (fun _ hr=>by cases hr;exact h.keep hd hu (.inl rfl)) (fun _=>?_)
    ·split
     ·exact h.push hd hu (pk (by omega))
     ·exact erq0 _
    ·split
     ·exact erq0 _
     split
     ·intro hr;cases hr;exact h.keep hd hu (.inr (pk (by omega)))
     ·exact erq0 _
    ·split
     ·exact erq0 _
     ·exact h.push (u:=BJ (BJ u)) hd hu (pk (by omega))
    ·split
     ·exact erq0 _
     ·exact h.push (u:=BJ u) hd hu (pk (by omega))
    ·obtain ⟨j1,j2,j3q0⟩:=i12 a;unfold Gq;split
     ·exact erq0 _
     split
     ·rename_i hb;simp only;split
      ·intro hr;cases hr;exact h.branch hd (.inl rfl) hb.1 (by omega) j1 (by rw [← hu]) (by show ∀ e∈Nqq u.pc,_;rw [hupc];exact j2)
      ·intro hr;cases hr;exact h.branch hd (.inr rfl) hb.1 (by omega) j1 (by rw [← hu]) j3q0
     ·exact erq0 _
    ·split
     ·exact erq0 _
     ·intro hr;cases hr;exact h.keep hd hu (.inr (pk (by omega)))
    ·split
     ·intro hr;cases hr;refine h.keep hd hu (.inr fun e he=>?_);simp only at he;split at he
      ·exact i17 (by omega) e he
      ·exact pk (by omega) e he
     ·exact erq0 _
   ·cases hr
  ·cases hr
 ·cases hr
theorem vH {c:B9} {gl:List Int} (hc:uF en Nqq 0 c.1):∀ (f:Nat) (s t:VS),Br c s→uG en Nqq s→F7 c gl f s=.ok t→uG en Nqq t
 | 0,s,t,hg,h,hr=>by cases hr;exact h
 | f+1,s,t,hg,h,hr=>by
  rw [F7] at hr;split at hr
  ·cases hr;exact h
  ·rename_i hd
   cases hs:Fp c gl s with
   | err k=>rw [hs] at hr;cases hr
   | ok u =>
    rw [hs] at hr
    have hd':s.done=false:=by cases e:s.done with
     | false=>rfl
     | true=>exact absurd e hd
    have g:=OI (gl:=gl) hg hd';rw [hs] at g;exact vH hc f u t g.1 (wh hc hg.plen h hd' hs) hr
end
def vd (p:Pg) (i:Int):List uB:=if i < 0 then [] else (uy p.2.1 (p.2.1.length+1) p.2.2.1 []).getD i.toNat []
theorem wJ {p} (hw:Cl p) (h8:p.2.2.2.1≤8):uF (fun i=>(BM p.2.1 p.2.2.1 p.2.2.2.1).getD i.toNat (-1,0)) (vd p) 0 (AH p (p.2.1.length+1) p.2.2.1 0++i1 16 0 0):=by
 have n0:=hw.n0;have hrt:=hw.rt;refine (wi hw (p.2.1.length+1) p.2.2.1 [] (by omega) (by omega) (fun x hx=>(wH hw h8 x hx).1) 0 (fun i hi=>?_) fun e he=>?_).app (.one (.plain (by omega) (.inr (.inl rfl))))
 ·unfold vd;rw [if_neg (by omega),List.getD_eq_getElem?_getD,show ((0:Int)+(i:Int)).toNat=i from by omega,List.getElem?_eq_getElem hi];rfl
 ·unfold vd at he;rw [if_neg (by omega),List.getD_eq_getElem?_getD,List.getElem?_eq_none (by omega)] at he;exact he
theorem wD {q s t} (h:(q,s)=((-1:Int),(0:Int))∨vL t (q,s)):Ib q s t=false:=by
 unfold Ib;rcases h with h|⟨h1,h2⟩
 ·cases h;rw [if_pos ⟨rfl,rfl⟩]
 ·simp only at h1 h2;rw [if_neg (by omega)];generalize t.getD q.toNat 0=v at *;obtain rfl|rfl:=h1
  all_goals obtain rfl|rfl:=h2
  all_goals decide
theorem uZ {p} (h:BH p=0):CV p=true∧p.2.2.2.1≤8:=by
 unfold BH at h;simp only at h;split at h
 ·cases h
 ·rename_i h1
  refine ⟨by cases e:CV p with
   | true=>rfl
   | false=>exact absurd e h1,?_⟩
  split at h
  ·cases h
  ·split at h
   ·cases h
   ·split at h
    ·cases h
    ·omega
theorem ww (ns r n):(BM ns r n).length=CL n:=by
 unfold BM;exact (J3 (np:=CL n) _ _ _ _ ⟨by simp,by simp,by simp⟩).out
theorem wC {p ins} (hc:BH p=0) (hr:(H3 (Jn p) ins []).2=0):uX (BM p.2.1 p.2.2.1 p.2.2.2.1) (H3 (Jn p) ins []).1.1=true∧(H3 (Jn p) ins []).1.1.length=p.2.2.2.1.toNat:=by
 obtain ⟨hf,h8⟩:=uZ hc;have hw:=LK hf;have n0:=hw.n0
 have hco:Jn p=(AH p (p.2.1.length+1) p.2.2.1 0++i1 16 0 0,D9 p p.2.1.length,p.2.2.2.1,()):=by
  unfold Jn GE;simp only;rw [if_neg (by rw [hc];decide)]
 have hk:=wJ hw h8;have b:=KG (ns:=p.2.1) (p.2.1.length+1) ((p.2.1.length:Int) - 1) (0,0,false) (by omega) rfl;have p1:=b.p1;rw [hw.wk] at p1;simp only at p1;unfold H3 at hr ⊢
 cases hv:Em (Jn p) ins with
 | false=>rw [hv] at hr;simp at hr
 | true =>
  rw [hv] at hr;rw [if_pos rfl] at hr ⊢;have g0:=MV hv
  cases e:F7 (Jn p) [] 3001 (C3 (Jn p) ins) with
  | err k =>
   rw [e] at hr;have g2:=PQ (gl:=[]) 3001 (C3 (Jn p) ins) g0 (Nat.le_add_right _ _);rw [e] at g2;simp only at hr;rcases g2 with g2|g2|g2<;>omega
  | ok t =>
   have g2:=PQ (gl:=[]) 3001 (C3 (Jn p) ins) g0 (Nat.le_add_right _ _);rw [e] at g2;have g:=g2.1;have hpl:=g.plen
   have hst0:∀ i:Nat,(C3 (Jn p) ins).pts.getD i 0=0:=fun i=>by
    show (List.replicate _ (0:Int)).getD i 0=0;rw [List.getD_eq_getElem?_getD,List.getElem?_replicate];split<;>rfl
   have I0q0:uG (fun i=>(BM p.2.1 p.2.2.1 p.2.2.2.1).getD i.toNat (-1,0)) (vd p) (C3 (Jn p) ins):=by
    refine ⟨.inr fun e he=>?_,fun i=>by rw [hst0];decide,fun i hi h0=>absurd (hst0 i) h0⟩
    have:=uH (Nqq:=vd p) (pos:=0) (st:=[]) (l:=uy p.2.1 (p.2.1.length+1) p.2.2.1 []) (fun i hi=>by
     unfold vd;rw [if_neg (by omega),List.getD_eq_getElem?_getD,show ((0:Int)+(i:Int)).toNat=i from by omega,List.getElem?_eq_getElem hi];rfl) (uJ _ _ _ _) (fun e he=>by
     unfold vd at he;rw [if_neg (by omega),List.getD_eq_getElem?_getD,List.getElem?_eq_none (by omega)] at he;exact he) e he
    cases this
   have I:=vH (c:=Jn p) (gl:=[]) (by rw [hco];exact hk) 3001 _ t g0 I0q0 e;have hp2:(Jn p).2.2.1=p.2.2.2.1:=by rw [hco]
   rw [hp2] at hpl;refine ⟨u0.2 ⟨⟨?_,g.pts⟩,fun i hi=>?_⟩,hpl⟩
   ·rw [ww];show t.pts.length=_;unfold CL;omega
   ·unfold uS;show (!(t.pts.getD i 0 != 0 && Ib _ _ t.pts))=true;by_cases h0:t.pts.getD i 0=0
    ·rw [h0];rfl
    ·have:=I.ok i hi h0;simp only [Int.toNat_natCast] at this;have hs:Ib ((BM p.2.1 p.2.2.1 p.2.2.2.1).getD i (-1,0)).1 ((BM p.2.1 p.2.2.1 p.2.2.2.1).getD i (-1,0)).2 t.pts=false:=wD this;rw [hs,Bool.and_false];rfl
end Go.Proofs.YtmmbidoldegemaaGreatDoor
