/- Part 26 of a proof; no conditions. -/
import Derived.Test.YtmmbidoldegemaaGreatDoorZ24
set_option linter.all false
set_option maxRecDepth 8000
set_option maxHeartbeats 8000000
namespace Go.Proofs.YtmmbidoldegemaaGreatDoor
open Go.RowKit Go.Sl Go.Proofs.Tryz
theorem U5 (g:Int→Nat) {os:List Int} (h):((os.take 1).map g).sum=g os[0]:=by
 match os,h with
 | a::r,_=>simp
theorem U4 (g:Int→Nat) {os:List Int} (h:1 < os.length):((os.take 2).map g).sum=g os[0]+g os[1]:=by
 match os,h with
 | a::b::r,_=>simp
section
variable {S:Ad} {M:List J} {w:World} {p:Pg} {f k:Nat} {pos:Int}
theorem Uy (ih:Lr p f) (V:St S M w) (hb:Fs p) (cl cn:List Value) (hRp:Z.R S cl p) (hk:k < p.2.1.length) (hRn:Z.R S cn p.2.1[k]) (hw:Cl p) (hf:k+1≤f+1) (hq:0≤pos∧pos+4 * (Bp p.2.1 (f+1) k:Int)≤100000) (hv:(p.2.1[k]).1=12) :
  Ac prog 106 [.agg cl.toArray,.agg cn.toArray,.int .i64 pos] w (Db S M (AH p (f+1) k pos)):=by
 unfold Ac;obtain ⟨R,hR⟩:∃ R,AH p (f+1) k pos=R:=⟨_,rfl⟩
 rw [hR];rw [AH,Be hk] at hR;simp only at hR;rw [if_neg (by omega),if_neg (by omega),if_pos hv] at hR;have ha:=NO hw hk hv;have l0:0 < (p.2.1[k]).2.2.2.1.length:=by omega
 have l1:1 < (p.2.1[k]).2.2.2.1.length:=by omega
 have v0:=Hl (f:=f) hk l0;have v1:=Hl (f:=f) hk l1;rw [U5 _ l0] at v1;have b0:=Ej (f:=f) hw hk 0 l0 pos;have c0:=fun {S':Ad} {M:List J} (w:World) (V:St S' M w) (cl:List Value) (hR:Z.R S' cl p)=>Gl ih hw hk hf 0 l0 w V cl hR pos (by omega)
 generalize AH p f (AU p.2.1[k] 0) pos=C at *;have b1:=Ej (f:=f) hw hk 1 l1 (pos+(C.length:Int)+1);have c1:=fun {S':Ad} {M:List J} (w:World) (V:St S' M w) (cl:List Value) (hR:Z.R S' cl p)=>Gl ih hw hk hf 1 l1 w V cl hR (pos+(C.length:Int)+1) (by omega)
 generalize AH p f (AU p.2.1[k] 1) (pos+(C.length:Int)+1)=A at *
 have hrest:(p.2.1[k]).2.2.2.1.length=2∨∃ l2:2 < (p.2.1[k]).2.2.2.1.length,Bp p.2.1 f (p.2.1[k]).2.2.2.1[0]+Bp p.2.1 f (p.2.1[k]).2.2.2.1[1]+Bp p.2.1 f (p.2.1[k]).2.2.2.1[2]+1≤Bp p.2.1 (f+1) k:=by
  by_cases h:(p.2.1[k]).2.2.2.1.length=2
  ·exact .inl h
  ·have l2:2 < (p.2.1[k]).2.2.2.1.length:=by omega
   have v2:=Hl (f:=f) hk l2;rw [U4 _ l1] at v2;exact .inr ⟨l2,by omega⟩
 have HR:=Lib.hid hR;clear hR hv;obtain ⟨si,sn,rfl,L⟩:=Fj hb hRp;obtain ⟨so,rfl,ho,hI1,hI2,hI3⟩:=A5 hRn;clear L ho;have hcb : -1000000≤pos+(C.length:Int)+1+(A.length:Int)∧pos+(C.length:Int)+1+(A.length:Int)≤1000000:=by omega
 go_enter func106,ntmps106;repeat' ((apply ZZ 1);first|(apply O ();go_step)|(apply sB ();clear V;intro bx w V)|fail)
 obtain ⟨S1,hS1,hst1,hpn⟩:=AC (α:=Nd) V hRn rfl;generalize Value.pointer (some ⟨bx,0,none⟩)=pN at *;clear V;rename Nat=>bz
 obtain ⟨S2,hS2,V,hpp⟩:=AC (α:=Pg) hst1 (Z.mono hS1 hRp) rfl;clear hst1 hRn hRp;replace hpn:=Pt.mono hS2 hpn;generalize Value.pointer (some ⟨bx,0,none⟩)=pP at *;have hSS2:=hS1.trans hS2;clear hS1 hS2;refine Bm V kr ?_;clear V;intro w V;have hSS:=Cn V;apply nW ();refine px 0 rfl (Aw (y:=p) X hpp Y) ?_;rintro v0 ⟨cV,rfl,hcV⟩;refine px 1 rfl (As X hpn Y Y rfl) ?_;rintro v1 hp1;refine px 2 rfl (Aj X hp1 Y) ?_;rintro v2 ⟨hv2,hv21⟩;replace hv2:RSl S2 v2 (p.2.1[k]).2.2.2.1:=hv2;refine px 3 rfl (Aq X hv2 rfl Y Y Af Af) ?_;rintro v3 hp3;(try simp only [Int.toNat_zero,Int.reduceToNat] at hp3);refine px 4 rfl (Am X hp3 Y) ?_;rintro v4 ⟨rfl,hI4⟩;refine pd 5 rfl ?_;refine po 6 rfl ?_;intro K G;refine sc (c0 w V cV (Z.mono hSS hcV)) ?_;clear V;rintro v6 w ⟨S3,so3,hS3,rfl,hX3,V⟩;replace hSS:=hSS.trans hS3;refine pn G ?_;clear G K;refine pd 7 rfl ?_;refine AK kr ?_;have hpp3:=Pt.mono hSS hpp;have hpn3:=Pt.mono hSS hpn;have hS23:=hSS;clear hpp hpn hSS;repeat' ((apply ZZ 2);first|(apply O ();go_step)|fail)
 refine Bm V kr ?_;clear V;intro w V;have hSS:=Cn V;apply nW ();refine px 0 rfl (Aw (y:=p) X hpp3 Y) ?_;rintro v0 ⟨cV,rfl,hcV⟩;refine px 1 rfl (As X hpn3 Y Y rfl) ?_;rintro v1 hp1;refine px 2 rfl (Aj X hp1 Y) ?_;rintro v2 ⟨hv2,hv21⟩;replace hv2:RSl S3 v2 (p.2.1[k]).2.2.2.1:=hv2;refine px 3 rfl (Aq X hv2 rfl Y Y Af Af) ?_;rintro v3 hp3;(try simp only [Int.toNat_zero,Int.reduceToNat] at hp3);refine px 4 rfl (Am X hp3 Y) ?_;rintro v4 ⟨rfl,hI4⟩;refine pd 5 rfl ?_;refine pd 6 rfl ?_;refine pt 7 rfl (EH X hX3 Y) ?_;refine pt 8 rfl (by exact DC rfl rfl Af) ?_;refine pt 9 rfl (by exact DC rfl rfl Af) ?_;refine po 10 rfl ?_;intro K G;refine sc (c1 w V cV (Z.mono hSS hcV)) ?_;clear V;rintro v10 w ⟨S4,so4,hS4,rfl,hX4,V⟩;replace hSS:=hSS.trans hS4;refine pn G ?_;clear G K;refine pd 11 rfl ?_;refine AK kr ?_;have hpp4:=Pt.mono hSS hpp3;have hpn4:=Pt.mono hSS hpn3;have hX34:=hX3.mono hSS;have hS24:=hS23.trans hSS;clear hpp3 hpn3 hSS hX3;have cO:∀ {S':Ad} {M:List J} (w:World) (V:St S' M w) (e:Int),-1000002≤e∧e≤1000002→Ac prog 65 [.int .i64 12,.int .i64 e,.int .i64 (p.2.1[k]).2.1] w (Ls S' M (i1 12 e (p.2.1[k]).2.1)):=fun w V e he=>GA w V 12 e (p.2.1[k]).2.1 (Ah (by decide)) (by show -9223372036854775808≤e∧e≤9223372036854775807;omega) hI2
 rcases hrest with h2|⟨l2,v2⟩
 ·have e2:(((p.2.1[k]).2.2.2.1.length:Int) == 2)=true:=beq_iff_eq.2 (by omega)
  have HL:Hid (∀ x∈[C,i1 12 (pos+(C.length:Int)+1+(A.length:Int)) (p.2.1[k]).2.1,A],x.length≤100000):=Lib.hid (by
   intro x hx;simp only [List.mem_cons,List.not_mem_nil,or_false] at hx;rcases hx with rfl|rfl|rfl
   ·omega
   ·show 1≤_;omega
   ·omega)
  have hfl:Hid ([C,i1 12 (pos+(C.length:Int)+1+(A.length:Int)) (p.2.1[k]).2.1,A].flatten=R):=Lib.hid (by rw [← HR.out,if_pos h2];simp [List.flatten]);clear HR h2 c0 c1 b0 b1;repeat' (first|apply sK ()|(apply O ();go_step)|(apply kc ();refine BG (cO _ V _ (by omega)) Y rfl ?_;clear V;rintro v w ⟨S5,so5,hS5,rfl,hX5,V⟩<;>apply nW ()<;>(try replace V:=nH V))|apply sX ()|(apply sN ();intro hI)|(apply sL ();intro v hvl hv1)|(apply sI ();intro v L)|fail)
  refine Ay (vs:=[Ar so3,Ar so5,Ar so4]) V Y Y rfl rfl (by simp [Value.cells]) rfl (by omega) (by omega) ?_;clear V;intro x14 w hst0;obtain ⟨S7,hS7,V,hX7⟩:=St.freeze (α:=List Fg) hst0 (DX (hX34.mono hS5) (DX hX5 (DX (hX4.mono hS5) RL.nil))) rfl;clear hst0;obtain ⟨a7,n7,k7,rfl⟩:=BQ hX7
  have cR:∀ {M:List J} (w:World) (_:St S7 M w),Ac prog 107 [.slice a7 n7 k7] w (Db S7 M R):=fun {M} w V=>by
   rw [← hfl.out];exact Tx w V (a7,n7,k7) _ hX7 (by show 3≤10;omega) HL.out
  clear hfl;apply nW ();repeat' (first|(apply O ();go_step)|(apply kc ();refine BG (cR _ V) Y rfl ?_;clear V;rintro v w ⟨S8,so8,co8,hS8,rfl,hC8,V⟩<;>apply nW ()<;>(try replace V:=nH V))|fail)
  go_ret;exact ⟨_,rfl,S8,so8,co8,hSS2.trans (hS24.trans (hS5.trans (hS7.trans hS8))),rfl,hC8,V⟩
 ·have e2:(((p.2.1[k]).2.2.2.1.length:Int) == 2)=false:=beq_eq_false_iff_ne.2 (by omega);have b2:=Ej (f:=f) hw hk 2 l2 (pos+(C.length:Int)+1+(A.length:Int)+1);have c2:=fun {S':Ad} {M:List J} (w:World) (V:St S' M w) (cl:List Value) (hR:Z.R S' cl p)=>Gl ih hw hk hf 2 l2 w V cl hR (pos+(C.length:Int)+1+(A.length:Int)+1) (by omega)
  have HR2:=HR.out;rw [if_neg (by omega)] at HR2;generalize AH p f (AU p.2.1[k] 2) (pos+(C.length:Int)+1+(A.length:Int)+1)=B at *
  have HL:Hid (∀ x∈[C,i1 12 (pos+(C.length:Int)+1+(A.length:Int)+1) (p.2.1[k]).2.1,A,i1 13 (pos+(C.length:Int)+1+(A.length:Int)+1+(B.length:Int)) 0,B],x.length≤100000):=Lib.hid (by
   intro x hx;simp only [List.mem_cons,List.not_mem_nil,or_false] at hx;rcases hx with rfl|rfl|rfl|rfl|rfl
   ·omega
   ·show 1≤_;omega
   ·omega
   ·show 1≤_;omega
   ·omega)
  have hfl:Hid ([C,i1 12 (pos+(C.length:Int)+1+(A.length:Int)+1) (p.2.1[k]).2.1,A,i1 13 (pos+(C.length:Int)+1+(A.length:Int)+1+(B.length:Int)) 0,B].flatten=R):=Lib.hid (by rw [← HR2];simp [List.flatten]);have cJ:∀ {S':Ad} {M:List J} (w:World) (V:St S' M w) (e:Int),-2000002≤e∧e≤2000002→Ac prog 65 [.int .i64 13,.int .i64 e,.int .i64 0] w (Ls S' M (i1 13 e 0)):=fun w V e he=>GA w V 13 e 0 (Ah (by decide)) (by show -9223372036854775808≤e∧e≤9223372036854775807;omega) (Ah (by decide))
  clear HR HR2 c0 c1 b0 b1;repeat' ((apply ZZ 6);first|apply sK ()|(apply O ();go_step)|apply sX ()|(apply sL ();intro v hvl hv1)|(apply sI ();intro v L)|fail)
  refine Bm V kr ?_;clear V;intro w V;have hSS:=Cn V;apply nW ();refine px 0 rfl (Aw (y:=p) X hpp4 Y) ?_;rintro v0 ⟨cV,rfl,hcV⟩;refine px 1 rfl (As X hpn4 Y Y rfl) ?_;rintro v1 hp1;refine px 2 rfl (Aj X hp1 Y) ?_;rintro v2 ⟨hv2,hv21⟩;replace hv2:RSl S4 v2 (p.2.1[k]).2.2.2.1:=hv2;refine px 3 rfl (Aq X hv2 rfl Y Y Af Af) ?_;rintro v3 hp3;(try simp only [Int.toNat_zero,Int.reduceToNat] at hp3);refine px 4 rfl (Am X hp3 Y) ?_;rintro v4 ⟨rfl,hI4⟩;refine pd 5 rfl ?_;refine pt 6 rfl (by exact DC rfl rfl Af) ?_;refine po 7 rfl ?_;intro K G;refine sc (c2 w V cV (Z.mono hSS hcV)) ?_;clear V;rintro v7 w ⟨S5,so5,hS5,rfl,hX5,V⟩;replace hSS:=hSS.trans hS5;refine pn G ?_;clear G K;refine pd 8 rfl ?_;refine AK kr ?_;have hpn5:=Pt.mono hSS hpn4;have hX35:=hX34.mono hSS;have hX45:=hX4.mono hSS;have hS25:=hS24.trans hSS;clear hpp4 hpn4 hSS hX34 hX4 c2;repeat' (first|(with_reducible (refine Ag V (EH X (hX5.mono hS6) Y) ?_)<;>apply nW ())|(apply O ();go_step)|(apply kc ();refine BG (cO _ V _ (by omega)) Y rfl ?_;clear V;rintro v w ⟨S6,so6,hS6,rfl,hX6,V⟩<;>apply nW ()<;>(try replace V:=nH V))|(apply kc ();refine BG (cJ _ V _ (by omega)) Y rfl ?_;clear V;rintro v w ⟨S9,so9,hS9,rfl,hX9,V⟩<;>apply nW ()<;>(try replace V:=nH V))|(apply sN ();intro hI)|(apply sI ();intro v L)|fail)
  refine Ay (vs:=[Ar so3,Ar so6,Ar so4,Ar so9,Ar so5]) V Y Y rfl rfl (by simp [Value.cells]) rfl (by omega) (by omega) ?_;clear V;intro x14 w hst0;obtain ⟨S7,hS7,V,hX7⟩:=St.freeze (α:=List Fg) hst0 (DX (hX35.mono (hS6.trans hS9)) (DX (hX6.mono hS9) (DX (hX45.mono (hS6.trans hS9)) (DX hX9 (DX (hX5.mono (hS6.trans hS9)) RL.nil))))) rfl;clear hst0;obtain ⟨a7,n7,k7,rfl⟩:=BQ hX7
  have cR:∀ {M:List J} (w:World) (_:St S7 M w),Ac prog 107 [.slice a7 n7 k7] w (Db S7 M R):=fun {M} w V=>by
   rw [← hfl.out];exact Tx w V (a7,n7,k7) _ hX7 (by show 5≤10;omega) HL.out
  clear hfl;apply nW ();repeat' (first|(apply O ();go_step)|(apply kc ();refine BG (cR _ V) Y rfl ?_;clear V;rintro v w ⟨S8,so8,co8,hS8,rfl,hC8,V⟩<;>apply nW ()<;>(try replace V:=nH V))|fail)
  go_ret;exact ⟨_,rfl,S8,so8,co8,hSS2.trans (hS25.trans (hS6.trans (hS9.trans (hS7.trans hS8)))),rfl,hC8,V⟩
variable {si sn:Sv}
theorem dq (ih:Lr p f) (V:St S M w) (L:Cm S si sn p) (hw:Cl p) (hk:k < p.2.1.length) (hf:k+1≤f+1) (hq:0≤pos∧pos+4 * (Bp p.2.1 (f+1) k:Int)≤100000) (hv:(p.2.1[k]).1=12) :
  Ac prog 64 [Bo si sn p,.int .i64 (k:Int),.int .i64 pos] w (Db S M (AH p (f+1) k pos)):=by
 unfold Ac;obtain ⟨R,hR⟩:∃ R,AH p (f+1) k pos=R:=⟨_,rfl⟩
 rw [hR];rw [AH,Be hk] at hR;simp only at hR;have hn:=L.n;have hln:=L.ln;have hli:=L.li;have hvl:=DI p;have hb:Fs p:=⟨L.li,L.ln,L.lo⟩
 have hpr:=Fe L;rw [if_neg (by omega),if_neg (by omega),if_pos hv] at hR;have e1:(p.2.1[k].1 == 1)=false:=beq_eq_false_iff_ne.2 (by omega);have e2:(p.2.1[k].1 == 2)=false:=beq_eq_false_iff_ne.2 (by omega);have e12:(p.2.1[k].1 == 12)=true:=by first|rw [hv];rfl|exact beq_iff_eq.2 (by omega)
 have cB:=fun {S':Ad} {M:List J} (w:World) (V:St S' M w) (cl cn:List Value) (hRp:Z.R S' cl p) (hRn:Z.R S' cn p.2.1[k])=>Uy ih V hb cl cn hRp hk hRn hw hf hq hv
 rw [AH,Be hk] at cB;simp only at cB;rw [if_neg (by omega),if_neg (by omega),if_pos hv] at cB;rw [hR] at cB;have HR:=Lib.hid hR;clear hR hv L;go_enter func64,ntmps64;repeat' ((apply ZZ 1);first|(apply O ();go_step)|(apply sB ();clear V;intro bx w V)|fail)
 refine wp_region_lit ?_;repeat' (first|(apply O ();go_step)|apply sX ()|(apply sD ();intro cl hcl)|(apply sI ();intro v L)|(apply sA ();clear V;intro bk w V)|fail)
 obtain ⟨so,rfl,ho,hI1,hI2,hI3⟩:=A5 hcl;rw [show Z.agg Nd=true from rfl];apply nW ();repeat' ((apply ZZ 2);first|(apply O ();go_step)|(apply sS ();clear V;intro w V)|fail)
 obtain ⟨S1,hS1,hst1,hpn⟩:=AC (α:=Nd) V hcl rfl;clear V;obtain ⟨S2,hS2,V,hpp⟩:=AC (α:=Pg) hst1 (Z.mono hS1 hpr) rfl;clear hst1 hcl hpr ho hn;replace hpn:=Pt.mono hS2 hpn;generalize Value.pointer (some ⟨bk,0,none⟩)=pN at *;generalize Value.pointer (some ⟨bx,0,none⟩)=pP at *;have hSS2:=hS1.trans hS2;clear hS1 hS2;repeat' (first|apply sK ()|(apply O ();go_step)|(apply tL ();refine An V (Aw (y:=p) X hpp Y) ?_;rintro v34 ⟨c34,rfl,hc34⟩<;>apply nW ())|(apply tL ();refine An V (Aw (y:=p.2.1[k]) X hpn Y) ?_;rintro v35 ⟨c35,rfl,hc35⟩<;>apply nW ())|(apply kc ();refine BG (cB _ V c34 c35 hc34 hc35) Y rfl ?_;clear V;rintro v w ⟨S3,so3,co3,hS3,rfl,hC3,V⟩<;>apply nW ()<;>(try replace V:=nH V))|(apply sN ();intro hI)|(apply sI ();intro v L)|fail)
 go_ret;exact ⟨_,rfl,S3,so3,co3,hSS2.trans hS3,rfl,hC3,V⟩
end
theorem Wb {p:Pg} (hw:Cl p) (hb:Fs p):∀ f,Lr p f
 | 0=>by intro w cl k pos V hR hk hf hq;omega
 | f+1=>by
  intro w cl k pos V hR hk hf hq;obtain ⟨si,sn,rfl,L⟩:=Fj hb hR;have ih:Lr p f:=Wb hw hb f;have hc:=(hw.nd (k:Int) (by omega) (by omega)).cls;rw [Be hk] at hc
  have hc2:1≤(p.2.1[k]).1∧(p.2.1[k]).1≤17:=by
   unfold Ea at hc;by_cases h1:1≤(p.2.1[k]).1∧(p.2.1[k]).1≤10
   ·omega
   ·by_cases h2:11≤(p.2.1[k]).1∧(p.2.1[k]).1≤16
    ·omega
    ·by_cases h3:(p.2.1[k]).1=17
     ·omega
     ·rw [if_neg h1,if_neg h2,if_neg h3] at hc;exact (hc rfl).elim
  obtain h|h|h|h|h|h|h|h|h|h:(p.2.1[k]).1=1∨(p.2.1[k]).1=2∨(p.2.1[k]).1=12∨(p.2.1[k]).1=13∨(p.2.1[k]).1=15∨(p.2.1[k]).1=16∨(p.2.1[k]).1=11∨(p.2.1[k]).1=14∨(p.2.1[k]).1=17∨(3≤(p.2.1[k]).1∧(p.2.1[k]).1≤10):=by omega
  ·exact fR V L hw hk hf hq h
  ·exact fQ V L hw hk hf hq h
  ·exact dq ih V L hw hk hf hq h
  ·exact dp ih V L hw hk hf hq h
  ·exact dm V L hw hk hf hq h
  ·exact dl V L hw hk hf hq h
  ·exact dr ih V L hw hk hf hq h
  ·exact dn ih V L hw hk hf hq h
  ·exact dk ih V L hw hk hf hq h
  ·exact dj ih V L hw hk hf hq h
abbrev i9 (S:Ad) (M:List J) (r:(List Fg×Int×Int)×Int) (v:Value) (w:World):Prop :=
 ∃ S' so,S.Le S'∧v=.tuple #[.agg #[Ar so,.int .i64 r.1.2.1,.int .i64 r.1.2.2],.int .i64 r.2]∧RSl S' (Ar so) r.1.1∧St S' M w
theorem Yk {S}:RSl S (.slice none 0 0) ([]:List Fg):=.inl ⟨none,0,rfl,rfl,by unfold maxLen;omega⟩
theorem QU {p} (h:BH p≠0):GE p=(([],0,0),BH p):=by unfold GE;simp only;rw [if_pos h]
theorem LN {p} (h:BH p=0):GE p=((AH p (p.2.1.length+1) p.2.2.1 0++i1 16 0 0,D9 p p.2.1.length,p.2.2.2.1),0):=by unfold GE;simp only;rw [if_neg (by rw [h];decide)]
theorem NI {p} (h:BH p=0):CV p=true:=by
 cases hf:CV p with
 | true=>rfl
 | false=>rw [SK hf] at h;cases h
theorem Wa {p} (hw:Cl p) (hb:Fs p) {S M} (w) (V:St S M w) (cl) (hR:Z.R S cl p):
  Ac prog 64 [.agg cl.toArray,.int .i64 p.2.2.1,.int .i64 0] w (Db S M (AH p (p.2.1.length+1) p.2.2.1 0)):=by
 have h0:=hw.n0;have e:p.2.2.1=((p.2.1.length - 1:Nat):Int):=by have:=hw.rt;omega
 have hv:=PB hw;have e2:((p.2.1.length:Int) - 1)=((p.2.1.length - 1:Nat):Int):=by omega
 rw [e2] at hv;have:=hw.n4;rw [e];exact Wb hw hb (p.2.1.length+1) w cl (p.2.1.length - 1) 0 V hR (by omega) (by omega) (by rw [hv];omega)
theorem Kx {p} (hw:Cl p):(AH p (p.2.1.length+1) p.2.2.1 0).length≤1600:=by
 have h0:=hw.n0;have e:p.2.2.1=((p.2.1.length - 1:Nat):Int):=by have:=hw.rt;omega
 have hv:=PB hw;have e2:((p.2.1.length:Int) - 1)=((p.2.1.length - 1:Nat):Int):=by omega
 rw [e2] at hv;have h4:=hw.n4;rw [e];have:=Mv hw (p.2.1.length+1) (p.2.1.length - 1) 0 (by omega);omega
theorem fH {S M} (w) (V:St S M w) {p} (hb:Fs p) (cl) (hR:Z.R S cl p):
  Ac prog 37 [.agg cl.toArray] w (Q8 S M (BH p)):=by
 obtain ⟨si,sn,rfl,L⟩:=Fj hb hR;exact Qd w V si sn p L
theorem gG {S M} (w) (V:St S M w) (si sn p) (L:Cm S si sn p):
  Ac prog 36 [Bo si sn p] w (i9 S M (GE p)):=by
 unfold Ac;have hb:Fs p:=⟨L.li,L.ln,L.lo⟩
 have cE:=fun {M} w (V:St S M w)=>Qd w V si sn p L
 obtain ⟨R,hR⟩:∃ R,GE p=R:=⟨_,rfl⟩
 rw [hR];by_cases he:BH p=0
 ·have hf:=NI he;have hw:=LK hf;have HR:Hid (((AH p (p.2.1.length+1) p.2.2.1 0++i1 16 0 0,D9 p p.2.1.length,p.2.2.2.1),0)=R):=Lib.hid (by rw [← hR,LN he]);have hml:=Kx hw;have cC:=fun {S':Ad} {M:List J} (w:World) (V:St S' M w) (cl:List Value) (hR:Z.R S' cl p)=>Pd w V hb p.2.1.length (Nat.le_refl _) cl hR
  have cM:=fun {S':Ad} {M:List J} (w:World) (V:St S' M w) (cl:List Value) (hR:Z.R S' cl p)=>Wa hw hb w V cl hR
  have cO:=fun {S':Ad} {M:List J} (w:World) (V:St S' M w)=>GA w V 16 0 0 (Ah (by decide)) (Ah (by decide)) (Ah (by decide))
  have cE:=fun {S':Ad} {M:List J} (w:World) (V:St S' M w) (cl:List Value) (hR:Z.R S' cl p)=>fH w V hb cl hR
  rw [he] at cE;have hcb:=QW p p.2.1.length L.li L.ln;have hpr:=Fe L;generalize D9 p p.2.1.length=cn at *;generalize AH p (p.2.1.length+1) p.2.2.1 0=B at *;clear hR he hf L hw;go_enter func36,ntmps36;repeat' ((apply ZZ 1);first|(apply O ();go_step)|(apply sB ();clear V;intro bx w V)|(apply sA ();clear V;intro bk w V)|fail)
  replace V:=St.swap2 V;obtain ⟨S2,hS2,hst2,hpp⟩:=AC (α:=Pg) V hpr rfl;clear V;have V:=hst2;clear hst2 hpr;generalize Value.pointer (some ⟨bx,0,none⟩)=pP at *;repeat' ((apply ZZ 4);first|(apply O ();go_step)|(apply tL ();refine An V (Aw (y:=p) X hpp Y) ?_;rintro v34 ⟨c34,rfl,hc34⟩<;>apply nW ())|(apply kc ();refine sc (cE _ V c34 hc34) ?_;clear V;rintro v w ⟨S3,hS3,rfl,V⟩)|fail)
  have hpp3:=Pt.mono hS3 hpp;clear hpp hc34 cE;refine Bm V kr ?_;clear V;intro w V;have hSS:=Cn V;apply nW ();refine px 0 rfl (Aw (y:=p) X hpp3 Y) ?_;rintro v0 ⟨c0,rfl,hc0⟩;refine px 1 rfl (As X hpp3 Y Y rfl) ?_;rintro v1 hp1;refine px 2 rfl (Aj X hp1 Y) ?_;rintro v2 ⟨hv2,hv21⟩;replace hv2:RSl S3 v2 p.2.1:=hv2;refine pt 3 rfl (EH X hv2 Y) ?_;refine px 5 rfl (As X hpp3 Y Y rfl) ?_;rintro v5 hp5;refine px 6 rfl (Am X hp5 Y) ?_;rintro v6 ⟨rfl,hI6⟩;refine Cp 4 8 rfl rfl kr ?_ ?_;intro K G;refine sc (cC w V c0 (Z.mono hSS hc0)) ?_;clear V;rintro v4 w ⟨rfl,V⟩;refine pn G ?_;clear G K;refine pt 7 rfl (Dc (cs:=[.slice none 0 0,.int .i64 cn,.int .i64 p.2.2.2.1]) Y Y kr) ?_;refine po 8 rfl ?_;intro K G;refine BF V Y ?_;clear V;intro b8 w V;(try replace V:=nH V);refine pn G ?_;clear G K;refine po 9 rfl ?_;intro K G;(refine Ax V rfl _ N.h Y X rfl A3 A2 (by simp<;>omega) ?_);clear V;intro w V;(try replace V:=nH V);refine pn G ?_;clear G K;refine AK kr ?_;rotate_left;intro K G;refine BF V Y ?_;clear V;intro b8 w V;(try replace V:=nH V);refine pn G ?_;clear G K;refine po 4 rfl ?_;intro K G;refine sc (cC w V c0 (Z.mono hSS hc0)) ?_;clear V;rintro v4 w ⟨rfl,V⟩;refine pn G ?_;clear G K;refine pt 7 rfl (Dc (cs:=[.slice none 0 0,.int .i64 cn,.int .i64 p.2.2.2.1]) Y Y kr) ?_
  refine po 9 rfl ?_;intro K G;(refine Ax V rfl _ N.h Y X rfl A3 A2 (by simp<;>omega) ?_);clear V;intro w V;(try replace V:=nH V);refine pn G ?_;clear G K;refine AK kr ?_;rotate_left
  all_goals
   clear cC cE;repeat' (first|(apply O ();go_step)|(apply tL ();refine An V (Aw (y:=p) X hpp3 Y) ?_;rintro v44 ⟨c44,rfl,hc44⟩<;>apply nW ())|(apply kc ();refine sc (cM _ V c44 hc44) ?_;clear V;rintro v w ⟨S4,so4,co4,hS4,rfl,hC4,V⟩)|(apply kc ();refine sc (cO _ V) ?_;clear V;rintro v w ⟨S5,so5,hS5,rfl,hX5,V⟩)|(apply sN ();intro hI)|(apply sI ();intro v L)|fail)
   refine Bj (α:=Fg) V X X SlIn.h hX5 Y Y Y (by show (B.length+1) * _≤_;omega) (by show B.length+1≤_;omega) (by decide) ?_;clear V;intro x w d hd V;obtain ⟨S6,hS6,hst2,hX6⟩:=St.freeze (α:=Fg) (xs:=B++i1 16 0 0) V ((hC4.mono hS5).append hd) (by rw [List.length_append]);clear V;have V:=hst2;clear hst2;obtain ⟨a6,n6,k6,rfl⟩:=BQ hX6;apply nW ();repeat' (first|(apply O ();go_step)|apply sX ()|(apply sS ();clear V;intro w V)|fail)
   refine Bc rfl (AZ V rfl _ N.h Y rfl rfl) (A8 rfl) ?_;(try simp only [AV,List.drop_zero,List.drop_succ_cons,List.take_succ_cons,List.take_zero,AB,Ap]);exact ⟨_,rfl,S6,(a6,n6,k6),hS2.trans (hS3.trans (hSS.trans (hS4.trans (hS5.trans hS6)))),by rw [← HR.out],by rw [← HR.out];exact hX6,V.sub⟩
 ·have HR:Hid ((([],0,0),BH p)=R):=Lib.hid (by rw [← hR,QU he]);generalize BH p=e at *;have hz:(e != 0)=true:=bne_iff_ne.2 he;clear hR he;go_enter func36,ntmps36;repeat' (first|apply sK ()|(apply O ();go_step)|(apply kc ();refine sc (cE _ V) ?_;clear V;rintro v w ⟨S1,hS1,rfl,V⟩)|apply sX ()|(apply sS ();clear V;intro w V)|(apply sB ();clear V;intro bx w V)|(apply sA ();clear V;intro bk w V)|fail)
  refine Bc rfl (AZ V rfl _ N.h Y rfl rfl) (A8 rfl) ?_;(try simp only [AV,List.drop_zero,List.drop_succ_cons,List.take_succ_cons,List.take_zero,AB,Ap]);exact ⟨_,rfl,S1,(none,0,0),hS1,by rw [← HR.out],by rw [← HR.out];exact Yk,V.sub⟩
end Go.Proofs.YtmmbidoldegemaaGreatDoor
