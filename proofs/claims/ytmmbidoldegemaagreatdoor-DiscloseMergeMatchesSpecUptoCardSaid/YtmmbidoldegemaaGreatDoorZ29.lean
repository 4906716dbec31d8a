/- Part 30 of the proof that the law of the last part holds; no conditions. -/
import Derived.Test.YtmmbidoldegemaaGreatDoorZ28
set_option linter.unusedSimpArgs false
set_option linter.unusedVariables false
set_option maxRecDepth 8000
set_option maxHeartbeats 8000000
namespace Go.Proofs.YtmmbidoldegemaaGreatDoor
open Go.RowKit Go.Sl
theorem TR (g:Int→Nat) {os:List Int} (h:0 < os.length):((os.take 1).map g).sum=g os[0]:=by
 match os,h with
 | a::r,_=>simp
theorem TQ (g:Int→Nat) {os:List Int} (h:1 < os.length):((os.take 2).map g).sum=g os[0]+g os[1]:=by
 match os,h with
 | a::b::r,_=>simp
section
variable {S:Ac} {M:List Chunk} {w:World} {p:Pg} {f k:Nat} {pos:Int}
theorem Ti (ih:Ok p f) (hst:St S M w) (hb:FP p) (cl cn:List Value) (hRp:Rep.R S cl p) (hk:k < p.2.1.length) (hRn:Rep.R S cn p.2.1[k]) (hw:DI p) (hf:k+1≤f+1) (hq:0≤pos∧pos+4 * (BL p.2.1 (f+1) k:Int)≤100000) (hv:(p.2.1[k]).1=12) :
  Ad Tryz.prog 106 [.agg cl.toArray,.agg cn.toArray,.int .i64 pos] w (DJ S M (AQ p (f+1) k pos)):=by
 unfold Ad;obtain ⟨R,hR⟩:∃ R,AQ p (f+1) k pos=R:=⟨_,rfl⟩
 rw [hR];rw [AQ,BG hk] at hR;simp only at hR;rw [if_neg (by omega),if_neg (by omega),if_pos hv] at hR;have ha:=Ow hw hk hv;have l0:0 < (p.2.1[k]).2.2.2.1.length:=by omega
 have l1:1 < (p.2.1[k]).2.2.2.1.length:=by omega
 have v0:=JX (f:=f) hk l0;have v1:=JX (f:=f) hk l1;rw [TR _ l0] at v1;have b0:=Hs (f:=f) hw hk 0 l0 pos;have c0:=fun {S':Ac} {M:List Chunk} (w:World) (hst:St S' M w) (cl:List Value) (hR:Rep.R S' cl p)=>I4 ih hw hk hf 0 l0 w hst cl hR pos (by omega)
 generalize AQ p f (BB p.2.1[k] 0) pos=C at *;have b1:=Hs (f:=f) hw hk 1 l1 (pos+(C.length:Int)+1);have c1:=fun {S':Ac} {M:List Chunk} (w:World) (hst:St S' M w) (cl:List Value) (hR:Rep.R S' cl p)=>I4 ih hw hk hf 1 l1 w hst cl hR (pos+(C.length:Int)+1) (by omega)
 generalize AQ p f (BB p.2.1[k] 1) (pos+(C.length:Int)+1)=A at *
 have hrest:(p.2.1[k]).2.2.2.1.length=2∨∃ l2:2 < (p.2.1[k]).2.2.2.1.length,BL p.2.1 f (p.2.1[k]).2.2.2.1[0]+BL p.2.1 f (p.2.1[k]).2.2.2.1[1]+BL p.2.1 f (p.2.1[k]).2.2.2.1[2]+1≤BL p.2.1 (f+1) k:=by
  by_cases h:(p.2.1[k]).2.2.2.1.length=2
  ·exact .inl h
  ·have l2:2 < (p.2.1[k]).2.2.2.1.length:=by omega
   have v2:=JX (f:=f) hk l2;rw [TQ _ l1] at v2;exact .inr ⟨l2,by omega⟩
 have HR:=Lib.hid hR;clear hR hv;obtain ⟨si,sn,rfl,hp⟩:=EQ hb hRp;obtain ⟨so,rfl,ho,hI1,hI2,hI3⟩:=BT hRn;clear hp ho;have hcb : -1000000≤pos+(C.length:Int)+1+(A.length:Int)∧pos+(C.length:Int)+1+(A.length:Int)≤1000000:=by omega
 go_enter Tryz.func106,Tryz.ntmps106;repeat' ((apply Z1 ());first|(apply gK ();go_step)|(apply sB ();clear hst;intro bx w hst)|fail)
 obtain ⟨S1,hS1,hst1,hpn⟩:=AC (α:=Nd) hst hRn rfl;generalize Value.pointer (some ⟨bx,0,none⟩)=pN at *;clear hst;rename Nat=>bz
 obtain ⟨S2,hS2,hst,hpp⟩:=AC (α:=Pg) hst1 (Rep.mono hS1 hRp) rfl;clear hst1 hRn hRp;replace hpn:=Pt.mono hS2 hpn;generalize Value.pointer (some ⟨bx,0,none⟩)=pP at *;have hSS2:=hS1.trans hS2;clear hS1 hS2;refine AN hst kr ?_;clear hst;intro w hst;have hSS:=Bk hst;(try refine nX ?_);refine px 0 rfl (Av (y:=p) Ab hpp Aa) ?_;rintro v0 ⟨cV,rfl,hcV⟩;refine px 1 rfl (Ah Ab hpn Aa Aa rfl) ?_;rintro v1 hp1;refine px 2 rfl (Ae Ab hp1 Aa) ?_;rintro v2 ⟨hv2,hv21⟩;replace hv2:RSl S2 v2 (p.2.1[k]).2.2.2.1:=hv2;refine px 3 rfl (Ao Ab hv2 rfl Aa Aa Af Af) ?_;rintro v3 hp3;(try simp only [Int.toNat_zero,Int.reduceToNat] at hp3);refine px 4 rfl (Am Ab hp3 Aa) ?_;rintro v4 ⟨rfl,hI4⟩;refine pd 5 rfl ?_;refine po 6 rfl ?_;intro K hK;refine sc (c0 w hst cV (Rep.mono hSS hcV)) ?_;clear hst;rintro v6 w ⟨S3,so3,hS3,rfl,hX3,hst⟩;replace hSS:=hSS.trans hS3;refine pn hK ?_;clear hK K;refine pd 7 rfl ?_;refine Az kr ?_;have hpp3:=Pt.mono hSS hpp;have hpn3:=Pt.mono hSS hpn;have hS23:=hSS;clear hpp hpn hSS;repeat' ((apply Z2 ());first|(apply gK ();go_step)|fail)
 refine AN hst kr ?_;clear hst;intro w hst;have hSS:=Bk hst;(try refine nX ?_);refine px 0 rfl (Av (y:=p) Ab hpp3 Aa) ?_;rintro v0 ⟨cV,rfl,hcV⟩;refine px 1 rfl (Ah Ab hpn3 Aa Aa rfl) ?_;rintro v1 hp1;refine px 2 rfl (Ae Ab hp1 Aa) ?_;rintro v2 ⟨hv2,hv21⟩;replace hv2:RSl S3 v2 (p.2.1[k]).2.2.2.1:=hv2;refine px 3 rfl (Ao Ab hv2 rfl Aa Aa Af Af) ?_;rintro v3 hp3;(try simp only [Int.toNat_zero,Int.reduceToNat] at hp3);refine px 4 rfl (Am Ab hp3 Aa) ?_;rintro v4 ⟨rfl,hI4⟩;refine pd 5 rfl ?_;refine pd 6 rfl ?_;refine pt 7 rfl (Ei Ab hX3 Aa) ?_;refine pt 8 rfl (by exact DV rfl rfl Af) ?_;refine pt 9 rfl (by exact DV rfl rfl Af) ?_;refine po 10 rfl ?_;intro K hK;refine sc (c1 w hst cV (Rep.mono hSS hcV)) ?_;clear hst;rintro v10 w ⟨S4,so4,hS4,rfl,hX4,hst⟩;replace hSS:=hSS.trans hS4;refine pn hK ?_;clear hK K;refine pd 11 rfl ?_;refine Az kr ?_;have hpp4:=Pt.mono hSS hpp3;have hpn4:=Pt.mono hSS hpn3;have hX34:=hX3.mono hSS;have hS24:=hS23.trans hSS;clear hpp3 hpn3 hSS hX3;have cO:∀ {S':Ac} {M:List Chunk} (w:World) (hst:St S' M w) (e:Int),-1000002≤e∧e≤1000002→Ad Tryz.prog 65 [.int .i64 12,.int .i64 e,.int .i64 (p.2.1[k]).2.1] w (KC S' M (i1 12 e (p.2.1[k]).2.1)):=fun w hst e he=>Ml w hst 12 e (p.2.1[k]).2.1 (Aj (by decide)) (by show -9223372036854775808≤e∧e≤9223372036854775807;omega) hI2
 rcases hrest with h2|⟨l2,v2⟩
 ·have e2:(((p.2.1[k]).2.2.2.1.length:Int) == 2)=true:=beq_iff_eq.2 (by omega)
  have HL:Hid (∀ x∈[C,i1 12 (pos+(C.length:Int)+1+(A.length:Int)) (p.2.1[k]).2.1,A],x.length≤100000):=Lib.hid (by
   intro x hx;simp only [List.mem_cons,List.not_mem_nil,or_false] at hx;rcases hx with rfl|rfl|rfl
   ·omega
   ·show 1≤_;omega
   ·omega)
  have hfl:Hid ([C,i1 12 (pos+(C.length:Int)+1+(A.length:Int)) (p.2.1[k]).2.1,A].flatten=R):=Lib.hid (by rw [← HR.out,if_pos h2];simp [List.flatten]);clear HR h2 c0 c1 b0 b1;repeat' (first|apply sK ()|(apply gK ();go_step)|(with_reducible refine kC ?_;refine B9 (cO _ hst _ (by omega)) Aa rfl ?_;clear hst;rintro v w ⟨S5,so5,hS5,rfl,hX5,hst⟩<;>(try refine nX ?_)<;>(try replace hst:=nH hst))|apply sX ()|(apply sN ();intro hI)|(apply sL ();intro v hvl hv1)|(apply sI ();intro v hp)|fail)
  refine AA (vs:=[Ar so3,Ar so5,Ar so4]) hst Aa Aa rfl rfl (by simp [Value.cells]) rfl (by omega) (by omega) ?_;clear hst;intro x14 w hst0;obtain ⟨S7,hS7,hst,hX7⟩:=St.freeze (α:=List EY) hst0 (Fj (hX34.mono hS5) (Fj hX5 (Fj (hX4.mono hS5) RL.nil))) rfl;clear hst0;obtain ⟨a7,n7,k7,rfl⟩:=BO hX7
  have cR:∀ {M:List Chunk} (w:World) (_:St S7 M w),Ad Tryz.prog 107 [.slice a7 n7 k7] w (DJ S7 M R):=fun {M} w hst=>by
   rw [← hfl.out];exact YL w hst (a7,n7,k7) _ hX7 (by show 3≤10;omega) HL.out
  clear hfl;(try refine nX ?_);repeat' (first|(apply gK ();go_step)|(with_reducible refine kC ?_;refine B9 (cR _ hst) Aa rfl ?_;clear hst;rintro v w ⟨S8,so8,co8,hS8,rfl,hC8,hst⟩<;>(try refine nX ?_)<;>(try replace hst:=nH hst))|fail)
  go_ret;exact ⟨_,rfl,S8,so8,co8,hSS2.trans (hS24.trans (hS5.trans (hS7.trans hS8))),rfl,hC8,hst⟩
 ·have e2:(((p.2.1[k]).2.2.2.1.length:Int) == 2)=false:=beq_eq_false_iff_ne.2 (by omega);have b2:=Hs (f:=f) hw hk 2 l2 (pos+(C.length:Int)+1+(A.length:Int)+1);have c2:=fun {S':Ac} {M:List Chunk} (w:World) (hst:St S' M w) (cl:List Value) (hR:Rep.R S' cl p)=>I4 ih hw hk hf 2 l2 w hst cl hR (pos+(C.length:Int)+1+(A.length:Int)+1) (by omega)
  have HR2:=HR.out;rw [if_neg (by omega)] at HR2;generalize AQ p f (BB p.2.1[k] 2) (pos+(C.length:Int)+1+(A.length:Int)+1)=B at *
  have HL:Hid (∀ x∈[C,i1 12 (pos+(C.length:Int)+1+(A.length:Int)+1) (p.2.1[k]).2.1,A,i1 13 (pos+(C.length:Int)+1+(A.length:Int)+1+(B.length:Int)) 0,B],x.length≤100000):=Lib.hid (by
   intro x hx;simp only [List.mem_cons,List.not_mem_nil,or_false] at hx;rcases hx with rfl|rfl|rfl|rfl|rfl
   ·omega
   ·show 1≤_;omega
   ·omega
   ·show 1≤_;omega
   ·omega)
  have hfl:Hid ([C,i1 12 (pos+(C.length:Int)+1+(A.length:Int)+1) (p.2.1[k]).2.1,A,i1 13 (pos+(C.length:Int)+1+(A.length:Int)+1+(B.length:Int)) 0,B].flatten=R):=Lib.hid (by rw [← HR2];simp [List.flatten]);have cJ:∀ {S':Ac} {M:List Chunk} (w:World) (hst:St S' M w) (e:Int),-2000002≤e∧e≤2000002→Ad Tryz.prog 65 [.int .i64 13,.int .i64 e,.int .i64 0] w (KC S' M (i1 13 e 0)):=fun w hst e he=>Ml w hst 13 e 0 (Aj (by decide)) (by show -9223372036854775808≤e∧e≤9223372036854775807;omega) (Aj (by decide))
  clear HR HR2 c0 c1 b0 b1;repeat' ((apply Z6 ());first|apply sK ()|(apply gK ();go_step)|apply sX ()|(apply sL ();intro v hvl hv1)|(apply sI ();intro v hp)|fail)
  refine AN hst kr ?_;clear hst;intro w hst;have hSS:=Bk hst;(try refine nX ?_);refine px 0 rfl (Av (y:=p) Ab hpp4 Aa) ?_;rintro v0 ⟨cV,rfl,hcV⟩;refine px 1 rfl (Ah Ab hpn4 Aa Aa rfl) ?_;rintro v1 hp1;refine px 2 rfl (Ae Ab hp1 Aa) ?_;rintro v2 ⟨hv2,hv21⟩;replace hv2:RSl S4 v2 (p.2.1[k]).2.2.2.1:=hv2;refine px 3 rfl (Ao Ab hv2 rfl Aa Aa Af Af) ?_;rintro v3 hp3;(try simp only [Int.toNat_zero,Int.reduceToNat] at hp3);refine px 4 rfl (Am Ab hp3 Aa) ?_;rintro v4 ⟨rfl,hI4⟩;refine pd 5 rfl ?_;refine pt 6 rfl (by exact DV rfl rfl Af) ?_;refine po 7 rfl ?_;intro K hK;refine sc (c2 w hst cV (Rep.mono hSS hcV)) ?_;clear hst;rintro v7 w ⟨S5,so5,hS5,rfl,hX5,hst⟩;replace hSS:=hSS.trans hS5;refine pn hK ?_;clear hK K;refine pd 8 rfl ?_;refine Az kr ?_;have hpn5:=Pt.mono hSS hpn4;have hX35:=hX34.mono hSS;have hX45:=hX4.mono hSS;have hS25:=hS24.trans hSS;clear hpp4 hpn4 hSS hX34 hX4 c2;repeat' (first|(with_reducible (refine Ag hst (Ei Ab (hX5.mono hS6) Aa) ?_)<;>(try refine nX ?_))|(apply gK ();go_step)|(with_reducible refine kC ?_;refine B9 (cO _ hst _ (by omega)) Aa rfl ?_;clear hst;rintro v w ⟨S6,so6,hS6,rfl,hX6,hst⟩<;>(try refine nX ?_)<;>(try replace hst:=nH hst))|(with_reducible refine kC ?_;refine B9 (cJ _ hst _ (by omega)) Aa rfl ?_;clear hst;rintro v w ⟨S9,so9,hS9,rfl,hX9,hst⟩<;>(try refine nX ?_)<;>(try replace hst:=nH hst))|(apply sN ();intro hI)|(apply sI ();intro v hp)|fail)
  refine AA (vs:=[Ar so3,Ar so6,Ar so4,Ar so9,Ar so5]) hst Aa Aa rfl rfl (by simp [Value.cells]) rfl (by omega) (by omega) ?_;clear hst;intro x14 w hst0;obtain ⟨S7,hS7,hst,hX7⟩:=St.freeze (α:=List EY) hst0 (Fj (hX35.mono (hS6.trans hS9)) (Fj (hX6.mono hS9) (Fj (hX45.mono (hS6.trans hS9)) (Fj hX9 (Fj (hX5.mono (hS6.trans hS9)) RL.nil))))) rfl;clear hst0;obtain ⟨a7,n7,k7,rfl⟩:=BO hX7
  have cR:∀ {M:List Chunk} (w:World) (_:St S7 M w),Ad Tryz.prog 107 [.slice a7 n7 k7] w (DJ S7 M R):=fun {M} w hst=>by
   rw [← hfl.out];exact YL w hst (a7,n7,k7) _ hX7 (by show 5≤10;omega) HL.out
  clear hfl;(try refine nX ?_);repeat' (first|(apply gK ();go_step)|(with_reducible refine kC ?_;refine B9 (cR _ hst) Aa rfl ?_;clear hst;rintro v w ⟨S8,so8,co8,hS8,rfl,hC8,hst⟩<;>(try refine nX ?_)<;>(try replace hst:=nH hst))|fail)
  go_ret;exact ⟨_,rfl,S8,so8,co8,hSS2.trans (hS25.trans (hS6.trans (hS9.trans (hS7.trans hS8)))),rfl,hC8,hst⟩
variable {si sn:Sv}
theorem aa (ih:Ok p f) (hst:St S M w) (hp:Du S si sn p) (hw:DI p) (hk:k < p.2.1.length) (hf:k+1≤f+1) (hq:0≤pos∧pos+4 * (BL p.2.1 (f+1) k:Int)≤100000) (hv:(p.2.1[k]).1=12) :
  Ad Tryz.prog 64 [CR si sn p,.int .i64 (k:Int),.int .i64 pos] w (DJ S M (AQ p (f+1) k pos)):=by
 unfold Ad;obtain ⟨R,hR⟩:∃ R,AQ p (f+1) k pos=R:=⟨_,rfl⟩
 rw [hR];rw [AQ,BG hk] at hR;simp only at hR;have hn:=hp.n;have hln:=hp.ln;have hli:=hp.li;have hvl:=E0 p;have hb:FP p:=⟨hp.li,hp.ln,hp.lo⟩
 have hpr:=GM hp;rw [if_neg (by omega),if_neg (by omega),if_pos hv] at hR;have e1:(p.2.1[k].1 == 1)=false:=beq_eq_false_iff_ne.2 (by omega);have e2:(p.2.1[k].1 == 2)=false:=beq_eq_false_iff_ne.2 (by omega);have e12:(p.2.1[k].1 == 12)=true:=by first|rw [hv];rfl|exact beq_iff_eq.2 (by omega)
 have cB:=fun {S':Ac} {M:List Chunk} (w:World) (hst:St S' M w) (cl cn:List Value) (hRp:Rep.R S' cl p) (hRn:Rep.R S' cn p.2.1[k])=>Ti ih hst hb cl cn hRp hk hRn hw hf hq hv
 rw [AQ,BG hk] at cB;simp only at cB;rw [if_neg (by omega),if_neg (by omega),if_pos hv] at cB;rw [hR] at cB;have HR:=Lib.hid hR;clear hR hv hp;go_enter Tryz.func64,Tryz.ntmps64;repeat' ((apply Z1 ());first|(apply gK ();go_step)|(apply sB ();clear hst;intro bx w hst)|fail)
 refine wp_region_lit ?_;repeat' (first|(apply gK ();go_step)|apply sX ()|(apply sD ();intro cl hcl)|(apply sI ();intro v hp)|(apply sA ();clear hst;intro bk w hst)|fail)
 obtain ⟨so,rfl,ho,hI1,hI2,hI3⟩:=BT hcl;rw [show Rep.agg Nd=true from rfl];(try refine nX ?_);repeat' ((apply Z2 ());first|(apply gK ();go_step)|(apply sS ();clear hst;intro w hst)|fail)
 obtain ⟨S1,hS1,hst1,hpn⟩:=AC (α:=Nd) hst hcl rfl;clear hst;obtain ⟨S2,hS2,hst,hpp⟩:=AC (α:=Pg) hst1 (Rep.mono hS1 hpr) rfl;clear hst1 hcl hpr ho hn;replace hpn:=Pt.mono hS2 hpn;generalize Value.pointer (some ⟨bk,0,none⟩)=pN at *;generalize Value.pointer (some ⟨bx,0,none⟩)=pP at *;have hSS2:=hS1.trans hS2;clear hS1 hS2;repeat' (first|apply sK ()|(apply gK ();go_step)|(with_reducible refine kL ?_;refine An hst (Av (y:=p) Ab hpp Aa) ?_;rintro v34 ⟨c34,rfl,hc34⟩<;>(try refine nX ?_))|(with_reducible refine kL ?_;refine An hst (Av (y:=p.2.1[k]) Ab hpn Aa) ?_;rintro v35 ⟨c35,rfl,hc35⟩<;>(try refine nX ?_))|(with_reducible refine kC ?_;refine B9 (cB _ hst c34 c35 hc34 hc35) Aa rfl ?_;clear hst;rintro v w ⟨S3,so3,co3,hS3,rfl,hC3,hst⟩<;>(try refine nX ?_)<;>(try replace hst:=nH hst))|(apply sN ();intro hI)|(apply sI ();intro v hp)|fail)
 go_ret;exact ⟨_,rfl,S3,so3,co3,hSS2.trans hS3,rfl,hC3,hst⟩
end
theorem U1 {p:Pg} (hw:DI p) (hb:FP p):∀ f,Ok p f
 | 0=>by intro w cl k pos hst hR hk hf hq;omega
 | f+1=>by
  intro w cl k pos hst hR hk hf hq;obtain ⟨si,sn,rfl,hp⟩:=EQ hb hR;have ih:Ok p f:=U1 hw hb f;have hkd:=SG hw hk;obtain h|h|h|h|h|h:(p.2.1[k]).1=1∨(p.2.1[k]).1=2∨(p.2.1[k]).1=12∨(p.2.1[k]).1=15∨(p.2.1[k]).1=17∨(3≤(p.2.1[k]).1∧(p.2.1[k]).1≤10):=by omega
  ·exact dH hst hp hw hk hf hq h
  ·exact dG hst hp hw hk hf hq h
  ·exact aa ih hst hp hw hk hf hq h
  ·exact ZZ hst hp hw hk hf hq h
  ·exact ZY ih hst hp hw hk hf hq h
  ·exact ZX ih hst hp hw hk hf hq h
abbrev fZ (S:Ac) (M:List Chunk) (r:(List EY×Int×Int)×Int) (v:Value) (w:World):Prop :=
 ∃ S' so,S.Le S'∧v=.tuple #[.agg #[Ar so,.int .i64 r.1.2.1,.int .i64 r.1.2.2],.int .i64 r.2]∧RSl S' (Ar so) r.1.1∧St S' M w
theorem WT {S:Ac}:RSl S (.slice none 0 0) ([]:List EY):=.inl ⟨none,0,rfl,rfl,by unfold maxLen;omega⟩
theorem PN {p:Pg} (h:BH p≠0):F7 p=(([],0,0),BH p):=by unfold F7;simp only;rw [if_pos h]
theorem KV {p:Pg} (h:BH p=0):F7 p=((AQ p (p.2.1.length+1) p.2.2.1 0++i1 16 0 0,DP p p.2.1.length,p.2.2.2.1),0):=by unfold F7;simp only;rw [if_neg (by rw [h];decide)]
theorem MH {p:Pg} (h:BH p=0):CH p=true:=by
 cases hf:CH p with
 | true=>rfl
 | false=>rw [RF hf] at h;cases h
theorem U0 {p:Pg} (hw:DI p) (hb:FP p) {S:Ac} {M:List Chunk} (w:World) (hst:St S M w) (cl:List Value) (hR:Rep.R S cl p) :
  Ad Tryz.prog 64 [.agg cl.toArray,.int .i64 p.2.2.1,.int .i64 0] w (DJ S M (AQ p (p.2.1.length+1) p.2.2.1 0)):=by
 have h0:=hw.n0;have e:p.2.2.1=((p.2.1.length - 1:Nat):Int):=by have:=hw.rt;omega
 have hv:=OD hw;have e2:((p.2.1.length:Int) - 1)=((p.2.1.length - 1:Nat):Int):=by omega
 rw [e2] at hv;have:=hw.n4;rw [e];exact U1 hw hb (p.2.1.length+1) w cl (p.2.1.length - 1) 0 hst hR (by omega) (by omega) (by rw [hv];omega)
theorem JO {p:Pg} (hw:DI p):(AQ p (p.2.1.length+1) p.2.2.1 0).length≤1600:=by
 have h0:=hw.n0;have e:p.2.2.1=((p.2.1.length - 1:Nat):Int):=by have:=hw.rt;omega
 have hv:=OD hw;have e2:((p.2.1.length:Int) - 1)=((p.2.1.length - 1:Nat):Int):=by omega
 rw [e2] at hv;have h4:=hw.n4;rw [e];have:=LF hw (p.2.1.length+1) (p.2.1.length - 1) 0 (by omega);omega
theorem dx {S M} (w:World) (hst:St S M w) {p:Pg} (hkd:RP p) (hb:FP p) (cl:List Value) (hR:Rep.R S cl p) :
  Ad Tryz.prog 37 [.agg cl.toArray] w (P6 S M (BH p)):=by
 obtain ⟨si,sn,rfl,hp⟩:=EQ hb hR;exact O6 w hst si sn p hkd hp
theorem eI {S M} (w:World) (hst:St S M w) (si sn:Sv) (p:Pg) (hkd:RP p) (hp:Du S si sn p) :
  Ad Tryz.prog 36 [CR si sn p] w (fZ S M (F7 p)):=by
 unfold Ad;have hb:FP p:=⟨hp.li,hp.ln,hp.lo⟩
 have cE:=fun {M:List Chunk} (w:World) (hst:St S M w)=>O6 w hst si sn p hkd hp
 obtain ⟨R,hR⟩:∃ R,F7 p=R:=⟨_,rfl⟩
 rw [hR];by_cases he:BH p=0
 ·have hf:=MH he;have hw:=KT hkd hf;have HR:Hid (((AQ p (p.2.1.length+1) p.2.2.1 0++i1 16 0 0,DP p p.2.1.length,p.2.2.2.1),0)=R):=Lib.hid (by rw [← hR,KV he]);have hml:=JO hw;have cC:=fun {S':Ac} {M:List Chunk} (w:World) (hst:St S' M w) (cl:List Value) (hR:Rep.R S' cl p)=>VE w hst hb p.2.1.length (Nat.le_refl _) cl hR
  have cM:=fun {S':Ac} {M:List Chunk} (w:World) (hst:St S' M w) (cl:List Value) (hR:Rep.R S' cl p)=>U0 hw hb w hst cl hR
  have cO:=fun {S':Ac} {M:List Chunk} (w:World) (hst:St S' M w)=>Ml w hst 16 0 0 (Aj (by decide)) (Aj (by decide)) (Aj (by decide))
  have cE:=fun {S':Ac} {M:List Chunk} (w:World) (hst:St S' M w) (cl:List Value) (hR:Rep.R S' cl p)=>dx w hst hkd hb cl hR
  rw [he] at cE;have hcb:=VJ p p.2.1.length hp.li hp.ln;have hpr:=GM hp;generalize DP p p.2.1.length=cn at *;generalize AQ p (p.2.1.length+1) p.2.2.1 0=B at *;clear hR he hf hp hw;go_enter Tryz.func36,Tryz.ntmps36;repeat' ((apply Z1 ());first|(apply gK ();go_step)|(apply sB ();clear hst;intro bx w hst)|(apply sA ();clear hst;intro bk w hst)|fail)
  replace hst:=St.swap2 hst;obtain ⟨S2,hS2,hst2,hpp⟩:=AC (α:=Pg) hst hpr rfl;clear hst;have hst:=hst2;clear hst2 hpr;generalize Value.pointer (some ⟨bx,0,none⟩)=pP at *;repeat' ((apply Z4 ());first|(apply gK ();go_step)|(with_reducible refine kL ?_;refine An hst (Av (y:=p) Ab hpp Aa) ?_;rintro v34 ⟨c34,rfl,hc34⟩<;>(try refine nX ?_))|(apply kc ();refine sc (cE _ hst c34 hc34) ?_;clear hst;rintro v w ⟨S3,hS3,rfl,hst⟩)|fail)
  have hpp3:=Pt.mono hS3 hpp;clear hpp hc34 cE;refine AN hst kr ?_;clear hst;intro w hst;have hSS:=Bk hst;(try refine nX ?_);refine px 0 rfl (Av (y:=p) Ab hpp3 Aa) ?_;rintro v0 ⟨c0,rfl,hc0⟩;refine px 1 rfl (Ah Ab hpp3 Aa Aa rfl) ?_;rintro v1 hp1;refine px 2 rfl (Ae Ab hp1 Aa) ?_;rintro v2 ⟨hv2,hv21⟩;replace hv2:RSl S3 v2 p.2.1:=hv2;refine pt 3 rfl (Ei Ab hv2 Aa) ?_;refine px 5 rfl (Ah Ab hpp3 Aa Aa rfl) ?_;rintro v5 hp5;refine px 6 rfl (Am Ab hp5 Aa) ?_;rintro v6 ⟨rfl,hI6⟩;refine BQ 4 8 rfl rfl kr ?_ ?_;intro K hK;refine sc (cC w hst c0 (Rep.mono hSS hc0)) ?_;clear hst;rintro v4 w ⟨rfl,hst⟩;refine pn hK ?_;clear hK K;refine pt 7 rfl (Cz (cs:=[.slice none 0 0,.int .i64 cn,.int .i64 p.2.2.2.1]) Aa Aa kr) ?_;refine po 8 rfl ?_;intro K hK;refine Bv hst Aa ?_;clear hst;intro b8 w hst;(try replace hst:=nH hst);refine pn hK ?_;clear hK K;refine po 9 rfl ?_;intro K hK;(refine AB hst rfl _ BoxIn.h Aa Ab rfl A6 A5 (by simp<;>omega) ?_);clear hst;intro w hst;(try replace hst:=nH hst);refine pn hK ?_;clear hK K;refine Az kr ?_;rotate_left;intro K hK;refine Bv hst Aa ?_;clear hst;intro b8 w hst;(try replace hst:=nH hst);refine pn hK ?_;clear hK K;refine po 4 rfl ?_;intro K hK;refine sc (cC w hst c0 (Rep.mono hSS hc0)) ?_;clear hst;rintro v4 w ⟨rfl,hst⟩;refine pn hK ?_;clear hK K;refine pt 7 rfl (Cz (cs:=[.slice none 0 0,.int .i64 cn,.int .i64 p.2.2.2.1]) Aa Aa kr) ?_
  refine po 9 rfl ?_;intro K hK;(refine AB hst rfl _ BoxIn.h Aa Ab rfl A6 A5 (by simp<;>omega) ?_);clear hst;intro w hst;(try replace hst:=nH hst);refine pn hK ?_;clear hK K;refine Az kr ?_;rotate_left
  all_goals
   clear cC cE;repeat' (first|(apply gK ();go_step)|(with_reducible refine kL ?_;refine An hst (Av (y:=p) Ab hpp3 Aa) ?_;rintro v44 ⟨c44,rfl,hc44⟩<;>(try refine nX ?_))|(apply kc ();refine sc (cM _ hst c44 hc44) ?_;clear hst;rintro v w ⟨S4,so4,co4,hS4,rfl,hC4,hst⟩)|(apply kc ();refine sc (cO _ hst) ?_;clear hst;rintro v w ⟨S5,so5,hS5,rfl,hX5,hst⟩)|(apply sN ();intro hI)|(apply sI ();intro v hp)|fail)
   refine A2 (α:=EY) hst Ab Ab SlIn.h hX5 Aa Aa Aa (by show (B.length+1) * _≤_;omega) (by show B.length+1≤_;omega) (by decide) ?_;clear hst;intro x w d hd hst;obtain ⟨S6,hS6,hst2,hX6⟩:=St.freeze (α:=EY) (xs:=B++i1 16 0 0) hst ((hC4.mono hS5).append hd) (by rw [List.length_append]);clear hst;have hst:=hst2;clear hst2;obtain ⟨a6,n6,k6,rfl⟩:=BO hX6;(try refine nX ?_);repeat' (first|(apply gK ();go_step)|apply sX ()|(apply sS ();clear hst;intro w hst)|fail)
   refine A7 rfl (AT hst rfl _ BoxIn.h Aa rfl rfl) (A3 rfl) ?_;(try simp only [AX,List.drop_zero,List.drop_succ_cons,List.take_succ_cons,List.take_zero,As,Ap]);exact ⟨_,rfl,S6,(a6,n6,k6),hS2.trans (hS3.trans (hSS.trans (hS4.trans (hS5.trans hS6)))),by rw [← HR.out],by rw [← HR.out];exact hX6,hst.sub⟩
 ·have HR:Hid ((([],0,0),BH p)=R):=Lib.hid (by rw [← hR,PN he]);generalize BH p=e at *;have hz:(e != 0)=true:=bne_iff_ne.2 he;clear hR he;go_enter Tryz.func36,Tryz.ntmps36;repeat' (first|apply sK ()|(apply gK ();go_step)|(apply kc ();refine sc (cE _ hst) ?_;clear hst;rintro v w ⟨S1,hS1,rfl,hst⟩)|apply sX ()|(apply sS ();clear hst;intro w hst)|(apply sB ();clear hst;intro bx w hst)|(apply sA ();clear hst;intro bk w hst)|fail)
  refine A7 rfl (AT hst rfl _ BoxIn.h Aa rfl rfl) (A3 rfl) ?_;(try simp only [AX,List.drop_zero,List.drop_succ_cons,List.take_succ_cons,List.take_zero,As,Ap]);exact ⟨_,rfl,S1,(none,0,0),hS1,by rw [← HR.out],by rw [← HR.out];exact WT,hst.sub⟩
section
variable {l:List Tk}
def Ex (B:Nat) (x:PS):Prop:=∀ n∈x.nds,n.2.2.2.1.length≤B
theorem Ex.eq {B:Nat} {x y:PS} (h:Ex B x) (e:y.nds=x.nds):Ex B y:=by unfold Ex;rw [e];exact h
theorem D7 {B:Nat} {x:PS} {n:Nd} (h:Ex B x) (hn:0≤x.k→n.2.2.2.1.length≤B):Ex B (Bs x n).2:=by
 unfold Bs;split
 ·exact h
 ·intro m hm;rcases List.mem_append.1 hm with hm|hm
  ·exact h m hm
  ·obtain rfl:=List.mem_singleton.1 hm;exact hn (by omega)
theorem PF {B:Nat} (hB:3≤B) (f:Nat):(∀ x lv,Ex B x→Ex B (AV l f x lv).2)∧(∀ a x lv,Ex B x→Ex B (opsP l f a x lv).2)∧∀ x,Ex B x→Ex B (unaryP l f x).2:=by
 induction f with
 | zero=>exact ⟨fun x lv h=>by unfold AV;exact h.eq rfl,fun a x lv h=>by unfold opsP;exact h.eq rfl,fun x h=>by unfold unaryP;exact h.eq rfl⟩
 | succ f ih =>
  obtain ⟨i1,i2,i3⟩:=ih;refine ⟨fun x lv h=>?_,fun a x lv h=>?_,fun x h=>?_⟩
  ·unfold AV;split
   ·exact i3 _ h
   ·exact i2 _ _ _ (i1 _ _ h)
  ·unfold opsP;simp only;split
   ·have h1:Ex B (Bs (AV l f { x with k:=x.k+1 } (lv+1)).2 (CG l x lv,0,⟨[]⟩,[a,(AV l f { x with k:=x.k+1 } (lv+1)).1],())).2 :=
     D7 (i1 _ (lv+1) (h.eq rfl)) (fun _=>by show 2≤B;omega)
    split
    ·exact h1
    ·exact i2 _ _ _ h1
   ·exact h
  ·unfold unaryP;split
   ·exact D7 (i3 _ (h.eq (Bq _ _))) (fun _=>by show 1≤B;omega)
   ·split
    ·exact (i1 _ 0 (h.eq (Bq _ _))).eq (Bq _ _)
    ·split
     ·exact D7 (h.eq (BS _).1) (fun _=>Nat.zero_le _)
     ·exact D7 (h.eq (CA _).1) (fun _=>Nat.zero_le _)
theorem WF {B:Nat} (hB:3≤B) {f:Nat} {x:PS} (h:Ex B x):Ex B (Di l f x).2∧(Di l f x).1.2.2.2.1.length≤B:=by
 have e:=(PF (l:=l) hB f).1;unfold Di;split
 ·exact ⟨e _ 0 (((h.eq (Bq _ _)).eq (CA _).1).eq (Bq _ _)),by show 1≤B;omega⟩
 ·split
  ·exact ⟨e _ 0 (h.eq (Bq _ _)),by show 1≤B;omega⟩
  ·split
   ·exact ⟨(h.eq (Bq _ _)).eq (BS _).1,Nat.zero_le _⟩
   ·exact ⟨h.eq (Bq _ _),Nat.zero_le _⟩
theorem Wx {B:Nat} (hB:l.length+3≤B) (g f:Nat):(∀ s x,AH l s x→Ex B x→Ex B (BZ l g f x).2)∧(∀ s x,AH l s x→Ex B x→Ex B (blockP l g f x).2)∧∀ s x of,AH l (s+1) x→(x.k < 0∨(of.length:Int)≤x.k)→Ex B x→Ex B (listP l g f x of).2:=by
 induction f with
 | zero=>exact ⟨fun s x _ h=>by unfold BZ;exact h.eq rfl,fun s x _ h=>by unfold blockP;exact h.eq rfl,fun s x of _ _ h=>by unfold listP;exact h.eq rfl⟩
 | succ f ih =>
  obtain ⟨i1,i2,i3⟩:=ih;have e:=(PF (l:=l) (show 3≤B by omega) g).1;have ei:=(D4 (l:=l) g).1;refine ⟨fun s x hi h=>?_,fun s x hi h=>?_,fun s x of hi hk h=>?_⟩
  ·unfold BZ;split
   ·have j0:AH l (s+1) (Al l { x with pts:=x.pts+1 } [105,102]):=Pv hi (by assumption);have h0:Ex B (Al l { x with pts:=x.pts+1 } [105,102]):=Ex.eq (x:={ x with pts:=x.pts+1 }) (h.eq rfl) (Bq _ _);have j1:=ei _ _ 0 j0;have h1:=e _ 0 h0;have h2:=i2 _ _ j1 h1;have j2:=(Et (l:=l) g f).2.1 _ _ j1;simp only;split
    ·have h3:=i2 _ _ (AO [101,108,115,101] j2) (h2.eq (Bq _ _));exact D7 h3 (fun _=>by show 3≤B;omega)
    ·exact D7 h2 (fun _=>by show 2≤B;omega)
   ·split
    ·have j1:=CL (l:=l) (AO [114,101,112,101,97,116] hi);exact D7 (i2 _ _ j1 ((h.eq (Bq _ _)).eq (BS _).1)) (fun _=>by show 1≤B;omega)
    ·have h1:=WF (l:=l) (show 3≤B by omega) (f:=g) h;exact D7 (h1.1.eq (Bq _ _)) (fun _=>h1.2)
  ·unfold blockP;have j1:=AO [123] hi
   exact i3 s _ _ j1 (by
    have:=j1.lo;show _∨(0:Int)≤_;omega) (h.eq (Bq _ _))
  ·unfold listP;split
   ·have h1:=i1 _ x hi h;have j1:=(Et (l:=l) g f).1 _ _ hi;have a1:=(GH (l:=l) g f).1 x hi.lo
    exact i3 s _ _ j1 (by
     unfold BI at a1;simp only [List.length_append,List.length_cons,List.length_nil];omega) h1
   ·refine D7 (h.eq (Bq _ _)) (fun h0=>?_);have hh:=hi.hi;have hm:=Nf (l:=l) x [125];show of.length≤B;split at hm
    ·have:=ES (l:=l) (by assumption);omega
    ·omega
theorem QD {B:Nat} (hB:l.length+3≤B) (g:Nat):∀ (f:Nat) (x:PS) (of:List Int),AH l 0 x→(x.k < 0∨(of.length:Int)≤x.k)→Ex B x→Ex B (E3 l g f x of).2
 | 0,x,of,hi,hk,h=>by unfold E3;exact h.eq rfl
 | f+1,x,of,hi,hk,h=>by
  unfold E3;split
  ·have h1:=(Wx hB g g).1 _ x hi h;have j1:=(Et (l:=l) g g).1 _ _ hi;have a1:=(GH (l:=l) g g).1 x hi.lo
   exact QD hB g f _ _ j1 (by
    unfold BI at a1;simp only [List.length_append,List.length_cons,List.length_nil];omega) h1
  ·refine D7 h (fun h0=>?_);have hh:=hi.hi;show of.length≤B;omega
theorem OE {g:Nat}:∀ (f:Nat) (x:PS) (of:List Int),(E3 l g f x of).2.ins=x.ins
 | 0,x,of=>by unfold E3;rfl
 | f+1,x,of=>by
  unfold E3;split
  ·exact (OE f _ _).trans ((NK (l:=l) g g).1 x)
  ·exact Df _ _
theorem Lk:∀ (f:Nat) (x:PS),(BR l f x).ins.length≤x.ins.length+f∧(BR l f x).nds=x.nds
 | 0,x=>by unfold BR;exact ⟨Nat.le_refl _,rfl⟩
 | f+1,x=>by
  unfold BR;split
  ·have h:=Lk f (CQ l x);rw [Mz,List.length_append,Mx] at h;exact ⟨Nat.le_trans h.1 (by simp only [List.length_cons,List.length_nil];omega),h.2⟩
  ·exact ⟨by omega,rfl⟩
theorem Ll:∀ (f:Nat) (x:PS),AH l 0 x→AH l 0 (BR l f x)
 | 0,x,h=>by unfold BR;exact h
 | f+1,x,h=>by
  unfold BR;split
  ·exact Ll f _ (My h)
  ·exact h
end
theorem Sq (s:List UInt8):(Cj s).1.1.length≤1501∧(Cj s).1.2.1.length≤400∧∀ x∈(Cj s).1.2.1,x.2.2.2.1.length≤1503:=by
 have ht:=K4 s;unfold Cj;generalize (Cr s).1=l at *;split
 ·exact ⟨Nat.zero_le _,Nat.zero_le _,fun x hx=>by cases hx⟩
 ·split
  ·exact ⟨Nat.zero_le _,Nat.zero_le _,fun x hx=>by cases hx⟩
  ·have hi:AH l 0 (BR l (l.length+1) ⟨0,[],[],0⟩):=Ll _ _ (.inl ⟨by show (0:Int)+0≤0;omega,by show (0:Int)≤_;omega,by show (0:Int)≤0;omega,by show (0:Int)≤0;omega⟩);have hl:=Lk (l:=l) (l.length+1) ⟨0,[],[],0⟩;have h0:Ex 1503 (BR l (l.length+1) ⟨0,[],[],0⟩):=by intro n hn;rw [hl.2] at hn;cases hn
   have h1:=QD (l:=l) (B:=1503) (by omega) (8 * l.length+8) (l.length+1) _ [] hi (by
    have h1:=hi.lo;generalize (BR l (l.length+1) ⟨0,[],[],0⟩).k=k at *;show k < 0∨(0:Int)≤k;omega) h0
   have h2:=OE (l:=l) (g:=8 * l.length+8) (l.length+1) (BR l (l.length+1) ⟨0,[],[],0⟩) [];unfold Nt;split
   ·exact ⟨Nat.zero_le _,Nat.zero_le _,fun x hx=>by cases hx⟩
   ·split
    ·exact ⟨Nat.zero_le _,Nat.zero_le _,fun x hx=>by cases hx⟩
    ·refine ⟨?_,by rename_i hh;exact Nat.le_of_not_lt hh,h1⟩;show (E3 l (8 * l.length+8) (l.length+1) (BR l (l.length+1) ⟨0,[],[],0⟩) []).2.ins.length≤1501;rw [h2];have:=hl.1;simp only [List.length_nil] at this;omega
end Go.Proofs.YtmmbidoldegemaaGreatDoor
