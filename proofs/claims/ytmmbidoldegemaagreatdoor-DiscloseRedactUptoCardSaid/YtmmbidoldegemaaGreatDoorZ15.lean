/- Part 16 of a proof; no conditions. -/
import Derived.Test.YtmmbidoldegemaaGreatDoorZ14
set_option linter.all false
set_option maxRecDepth 8000
set_option maxHeartbeats 8000000
namespace Go.Proofs.YtmmbidoldegemaaGreatDoor
open Go.RowKit Go.Sl Go.Proofs.Tryz
theorem bU {S M} (w) (V:St S M w) (hG:Bu S) (vl l) (hl:RSl S vl l) (i) (hi:i < l.length) (hm:l.length≤1000):
  Ac prog 42 [vl,.int .i64 (i:Int)] w fun v w'=>∃ u,v=.tuple #[u,.int .i64 0]∧St S (.sl u 23 16 (Bk l i).length (cF EN (Bk l i))::M) w':=by
 unfold Ac;go_enter func42,ntmps42;repeat' (first|apply sG ()|(apply O ();go_step)|apply sY ()|(apply sT ();clear V;intro w V)|(apply sZ ();clear V;intro bk w V)|fail)
 rename Nat=>b7
 have V:=V.nil 23 16;refine Eh (eB l.length _ b7 bk (.slice none 0 0) [] V hG vl l hl i hi (Nat.le_refl _) hm (by simp;omega)) rfl Y rfl rfl ?_;clear V;rintro v w ⟨u,V⟩;rw [List.nil_append] at V;have hu:=Go.Sl.AY V;refine nY ?_;repeat' (first|(apply O ();go_step)|apply sY ()|fail)
 go_ret2
 exact ⟨_,rfl,u,rfl,V.swap.drop.swap.drop⟩
theorem YJ {S M} (w) (V:St S M w) (vl) (l:List Dg) (hl:RSl S vl l) (i:Int) (hi:i < 0∨l.length≤i) (hm:l.length≤1000):
  Ac prog 42 [vl,.int .i64 i] w fun v w'=>v=.tuple #[.slice none 0 0,.int .i64 1]∧St S M w':=by
 unfold Ac;by_cases h0:i < 0
 ·go_enter func42,ntmps42;repeat' (first|go_skip|(apply O ();go_step)|fail)
  go_ret2
  exact ⟨_,rfl,rfl,V⟩
 ·have h1:(l.length:Int)≤i:=by omega
  go_enter func42,ntmps42;repeat' (first|apply sG ()|(apply O ();go_step)|apply sY ()|fail)
  go_ret2
  exact ⟨_,rfl,rfl,V⟩
theorem fl {S} {d:Dg} (h:d.l.length=16):Z.R S (u8s d.l) d:=by exact ⟨h,LA d.l⟩
theorem Xt {S M} (w) (V:St S M w) (hG:Bu S) (root leaf) (hr:root.l.length=16) (hf:leaf.l.length=16) (n i:Nat) (hn:n≤1000) (hi:i≤9223372036854775807) (vp proof) (L:RSl S vp proof) (hpm:proof.length≤1048576):
  Ac prog 84 [Cu root,.int .i64 (n:Int),.int .i64 (i:Int),Cu leaf,vp] w fun v w'=>v=.bool (Cj root n i leaf proof)∧St S M w':=by
 unfold Ac
 haveI:LenIs leaf.l 16:=⟨hf⟩
 haveI:LenIs root.l 16:=⟨hr⟩
 by_cases hin:i < n
 ·have hV:Hid (Cj root n i leaf proof=(decide ((CO n i).length=proof.length) && decide (Jk (CO n i) leaf proof=root))):=Lib.hid (by simp [Cj,hin]);go_enter func84,ntmps84;repeat' (first|apply sG ()|(apply O ();go_step)|(apply sC ();clear V;intro bx w V)|fail)
  rename Nat=>b8
  have V:=V.nil 4 1
  go_loopw [1,2,11] (fun vn vi vs wr=>∃ (n' i':Nat) (c:List Bool),i' < n'∧n'≤n∧i'≤i∧vn=.int .i64 n'∧vi=.int .i64 i'∧Hid (c++CO n' i'=CO n i)∧c.length+n'≤n+1∧vs.oneCell'=true∧St S (.sl vs 4 1 c.length (cF Fb c)::.box b8 (u8s leaf.l) 23::.box bx (u8s root.l) 23::M) wr) (fun vn _ _ _=>(intOf vn).toNat)
  case atStart=>exact ⟨n,i,[],hin,Nat.le_refl _,Nat.le_refl _,rfl,rfl,Lib.hid rfl,by simp,rfl,V⟩
  case round =>
   clear V;obtain ⟨n',i',c,h1,h2,h3,rfl,rfl,hc,hcl,hone,V⟩:=hrel;by_cases hn2:2≤n'
   ·obtain ⟨hs1,hs2⟩:=Cs hn2;have hL:=Lib.hid (fun h=>L3 (i:=i') hn2 h);have hR:=Lib.hid (fun h=>KO (i:=i') hn2 h);have hsp:=fun {S M} (w:World) (V:St S M w)=>N0 w V n' hn2 (by omega)
    generalize Av n'=k at *;by_cases hik:i' < k
    ·repeat' (first|(apply O ();go_step)|(apply kc ();refine sc (hsp _ V) ?_;clear V;rintro v w ⟨rfl,V⟩)|fail)
     refine Ay (vs:=[.bool true]) V Y Y rfl rfl (by simp [Value.cells]) rfl (by omega) (by omega) ?_;clear V;intro u w V;refine nY ?_;refine AF (j:=0) V X X SlIn.h rfl Y Y Y (by simp [Value.cells,Value.oneCell']) (by omega) (by omega) (by decide) ?_;clear V;intro v' w V;refine nY ?_;(try replace V:=nH V);replace V:=V.drop;repeat' (first|(apply O ();go_step)|fail)
     have hone':=Go.Sl.AY V;go_roundw
     case rel=>exact ⟨k,i',c++[true],hik,by omega,h3,rfl,rfl,Lib.hid (by rw [← hc.out,hL.out hik,List.append_assoc];rfl),by simp;omega,hone',by rw [List.length_append,JU];exact V⟩
     case measure=>simp [intOf];omega
    ·have e1:((n':Int) - (k:Int))=((n' - k:Nat):Int):=by omega
     have e2:((i':Int) - (k:Int))=((i' - k:Nat):Int):=by omega
     repeat' (first|(apply O ();go_step)|(apply kc ();refine sc (hsp _ V) ?_;clear V;rintro v w ⟨rfl,V⟩)|fail)
     refine Ay (vs:=[.bool false]) V Y Y rfl rfl (by simp [Value.cells]) rfl (by omega) (by omega) ?_;clear V;intro u w V;refine nY ?_;refine AF (j:=0) V X X SlIn.h rfl Y Y Y (by simp [Value.cells,Value.oneCell']) (by omega) (by omega) (by decide) ?_;clear V;intro v' w V;refine nY ?_;(try replace V:=nH V);replace V:=V.drop;repeat' (first|(apply O ();go_step)|fail)
     have hone':=Go.Sl.AY V;have E1:=Lib.hid e1;have E2:=Lib.hid e2;clear e1 e2;go_roundw
     case rel=>exact ⟨n' - k,i' - k,c++[false],by omega,by omega,by omega,by first|rfl|rw [E1.out],by first|rfl|rw [E2.out],Lib.hid (by rw [← hc.out,hR.out hik,List.append_assoc];rfl),by simp;omega,hone',by rw [List.length_append,JU];exact V⟩
     case measure =>
      have:=E1.out;simp [intOf];omega
   ·obtain rfl:n'=1:=by omega
    obtain rfl:i'=0:=by omega
    have hcs:Hid (c=CO n i):=Lib.hid (by rw [← hc.out,Ts (by omega),List.append_nil]);clear hc;by_cases hlen:c.length=proof.length
    ·have hne:((c.length:Int) != (proof.length:Int))=false:=bne_eq_false_iff_eq.2 (by omega)
     have hV3:Hid (Cj root n i leaf proof=decide (((c.reverse.zip proof).take proof.length).foldl IB (DF leaf)=root)):=Lib.hid (by
      rw [hV.out,← hcs.out,Jk,List.take_of_length_le (by rw [List.length_zip];omega)];simp [hlen])
     have hll:c.length≤proof.length∧proof.length≤c.length:=by omega
     have hd16:=L.dgs;clear hlen;repeat' (first|(apply tS ();refine Gx V rfl N.h Y X Y IK ?_;clear V;intro w V<;>apply nZ ()<;>(try replace V:=nH V))|(apply O ();go_step)|(apply kc ();refine sc (We _ V hG leaf hf) ?_;clear V;rintro v w ⟨rfl,V⟩)|(apply tL ();refine Ag V (by exact Gc X N.h Y Y) ?_<;>apply nZ ())|apply sY ()|(apply sZ ();clear V;intro bk w V)|fail)
     clear hne;rename Nat=>b13
     go_loopw [52] (fun v wr=>∃ (j:Nat) (d:Dg),j≤proof.length∧v=.int .i64 j∧Hid (d=((c.reverse.zip proof).take j).foldl IB (DF leaf))∧d.l.length=16∧St S (.box b13 (u8s d.l) 23::.sl u11 4 1 c.length (cF Fb c)::.box b8 (u8s leaf.l) 23::.box bx (u8s root.l) 23::M) wr) (fun v _=>proof.length - (intOf v).toNat)
     case atStart=>exact ⟨0,_,Nat.zero_le _,rfl,Lib.hid rfl,K8 _,V⟩
     case round =>
      clear V;obtain ⟨j,d,hj,rfl,hd,hdl,V⟩:=hrel
      haveI:LenIs d.l 16:=⟨hdl⟩
      by_cases hlt:j < proof.length
      ·have hpj:=hd16 proof[j] (List.getElem_mem hlt)
       haveI:LenIs proof[j].l 16:=⟨hpj⟩
       have hcj:c.length - 1 - j < c.length:=by omega
       have hsd:Hid (((c.reverse.zip proof).take (j+1)).foldl IB (DF leaf)=IB d (c[c.length - 1 - j],proof[j])):=Lib.hid (by
        have hz:j < (c.reverse.zip proof).length:=by rw [List.length_zip,List.length_reverse];omega
        rw [List.take_succ_eq_append_getElem hz,List.foldl_append,← hd.out,List.getElem_zip,List.getElem_reverse];rfl)
       have ej:((c.length:Int) - 1 - (j:Int))=((c.length - 1 - j:Nat):Int):=by omega
       repeat' (first|(apply tI ();(first|refine An V (Aq X Ak rfl Y Y Af Af) ?_|refine An V (Ao V X SlIn.h rfl Y Y Af Af) ?_);rintro v L;(try simp only [Int.toNat_natCast,Int.toNat_natCast_add_one,Int.reduceToNat] at L)<;>apply nZ ())|(apply tS ();refine Gx V rfl N.h Y X Y IK ?_;clear V;intro w V<;>apply nZ ()<;>(try replace V:=nH V))|(apply O ();go_step)|(apply kc ();refine sc (Ob _ V hG d proof[j] hdl hpj) ?_;clear V;rintro v w ⟨rfl,V⟩)|(apply kc ();refine sc (Ob _ V hG proof[j] d hpj hdl) ?_;clear V;rintro v w ⟨rfl,V⟩)|(apply tL ();refine Ag V (by first|exact BW X Ak Y Y rfl|exact Gc X N.h Y Y) ?_<;>apply nZ ())|(apply tL ();refine Ag V (by exact Nb X Ak SlIn.h Y Af) ?_<;>apply nZ ())|apply sY ()|(apply sZ ();clear V;intro bk w V)|fail)
       all_goals
        have hb:=Lib.hid (by assumption:c[c.length - 1 - j]=_);replace V:=V.drop;go_roundw
        case rel=>exact ⟨j+1,_,by omega,by go_num,Lib.hid (by rw [hsd.out,IB,hb.out];rfl),K3 _ _,V⟩
        case measure=>simp [intOf];omega
      ·obtain rfl:j=proof.length:=by omega
       repeat' (first|(apply tB ();refine Ag V (JP rfl rfl (fl hdl) (fl hr) Y Y Y) ?_<;>apply nZ ())|(apply O ();go_step)|(apply tL ();refine Ag V (by exact Gc X N.h Y Y) ?_<;>apply nZ ())|fail)
       go_ret;exact ⟨_,rfl,by rw [hV3.out,← hd.out];rfl,V.drop.drop.drop.drop⟩
    ·have hV2:Hid (Cj root n i leaf proof=false):=Lib.hid (by rw [hV.out,← hcs.out];simp [hlen]);have hne:((c.length:Int) != (proof.length:Int))=true:=bne_iff_ne.2 (by omega);repeat' (first|(apply O ();go_step)|apply sY ()|fail)
     go_ret;exact ⟨_,rfl,by rw [hV2.out];rfl,V.drop.drop.drop⟩
 ·have hV:Hid (Cj root n i leaf proof=false):=Lib.hid (by simp [Cj,hin]);go_enter func84,ntmps84;repeat' (first|apply sG ()|(apply O ();go_step)|(apply sC ();clear V;intro bx w V)|fail)
  go_ret;exact ⟨_,rfl,by rw [hV.out];rfl,V.drop.drop⟩
def fD (p:Pn):Int×Int:=(p.1,p.2.1)
def H5 (ps:List Pn) (k:Nat):List (Int×Int):=((ps.take k).map fD).reverse
theorem Og {ps k p}:Hw p∈(ps.map Hw).take k↔(p.1,p.2.1)∈H5 ps k:=by
 unfold H5;rw [List.mem_reverse,← List.map_take];constructor
 ·intro h;obtain ⟨q,hq,he⟩:=List.mem_map.1 h;refine List.mem_map.2 ⟨q,hq,?_⟩;simp only [Hw,Prod.mk.injEq] at he;simp [fD,he.1,he.2]
 ·intro h;obtain ⟨q,hq,he⟩:=List.mem_map.1 h;refine List.mem_map.2 ⟨q,hq,?_⟩;simp only [fD,Prod.mk.injEq] at he;simp [Hw,he.1,he.2]
theorem ZT {ps k} (hk:k < ps.length):H5 ps (k+1)=(ps[k].1,ps[k].2.1)::H5 ps k:=by
 unfold H5;rw [List.take_succ_eq_append_getElem hk,List.map_append,List.reverse_append];rfl
theorem Ou {hs:List Hd} {ps:List Pn} {k:Nat} (hk:k < ps.length):CX hs (H5 ps k) (ps.drop k)=if (ps[k].1,ps[k].2.1)∈H5 ps k∨ps[k].1 < 0∨hs.length≤ps[k].1∨ps[k].2.2.1 < 0∨3 < ps[k].2.2.1 then 1 else
  match hs[ps[k].1.toNat]? with
  | none=>1
  | some h=>if ps[k].2.1 < 0∨h.2.2.1≤ps[k].2.1 then 1 else
   if Cj h.2.2.2.1 h.2.2.1.toNat ps[k].2.1.toNat (BX ps[k].2.1 ps[k].2.2.1) ps[k].2.2.2.1 then CX hs (H5 ps (k+1)) (ps.drop (k+1)) else 16:=by
 rw [List.drop_eq_getElem_cons hk,CX,ZT hk];all_goals rfl
theorem WS {hs:List Hd} {ps k} (hk:k < ps.length) (h:(ps[k].1,ps[k].2.1)∈H5 ps k∨ps[k].1 < 0∨hs.length≤ps[k].1∨ps[k].2.2.1 < 0∨3 < ps[k].2.2.1):CX hs (H5 ps k) (ps.drop k)=1:=by
 rw [Ou hk,if_pos h]
theorem iX {hs:List Hd} {ps k} (hk:k < ps.length) {h} (hh:hs[ps[k].1.toNat]? = some h) (hi:ps[k].2.1 < 0∨h.2.2.1≤ps[k].2.1):CX hs (H5 ps k) (ps.drop k)=1:=by
 rw [Ou hk,hh];split
 ·rfl
 ·simp only [if_pos hi]
theorem iW {hs:List Hd} {ps k} (hk:k < ps.length) {h} (hh:hs[ps[k].1.toNat]? = some h) (hn:(ps[k].1,ps[k].2.1) ∉ H5 ps k) (h1:0≤ps[k].1) (h2:ps[k].1 < hs.length) (h3:0≤ps[k].2.2.1) (h4:ps[k].2.2.1≤3) (hi:0≤ps[k].2.1) (hi2:ps[k].2.1 < h.2.2.1) {b} (hb:Cj h.2.2.2.1 h.2.2.1.toNat ps[k].2.1.toNat (BX ps[k].2.1 ps[k].2.2.1) ps[k].2.2.2.1=b):CX hs (H5 ps k) (ps.drop k)=if b then CX hs (H5 ps (k+1)) (ps.drop (k+1)) else 16:=by
 rw [Ou hk,hh,if_neg (by rintro (h|h);exact hn h;omega)];simp only [if_neg (show ¬ (ps[k].2.1 < 0∨h.2.2.1≤ps[k].2.1) by omega),hb]
theorem UN {S M} (w) (V:St S M w) (hG:Bu S) (root leaf) (hr:root.l.length=16) (hf:leaf.l.length=16) (n i) (h0:0≤n) (hn:n≤1000) (hi0:0≤i) (hi:i≤9223372036854775807) (vp proof) (L:RSl S vp proof) (hpm:proof.length≤1048576):
  Ac prog 84 [Cu root,.int .i64 n,.int .i64 i,Cu leaf,vp] w fun v w'=>v=.bool (Cj root n.toNat i.toNat leaf proof)∧St S M w':=by
 obtain ⟨n,rfl⟩:=Int.eq_ofNat_of_zero_le h0;obtain ⟨i,rfl⟩:=Int.eq_ofNat_of_zero_le hi0;exact Xt w V hG root leaf hr hf n i (by omega) (by omega) vp proof L hpm
structure Ox (ev:Cz):Prop where
 hd:∀ h∈ev.2.1,FN h∧h.2.2.1≤1000
 pt:∀ p∈ev.2.2.1,Au p.1∧Au p.2.1∧Au p.2.2.1∧p.2.2.2.1.length≤1048576
 nh:ev.2.1.length≤1048576
 np:ev.2.2.1.length≤1048576
theorem SJ {S M} (w) (V:St S M w) (hG:Bu S) (cs ev) (hR:Z.R S cs ev) (ok:Ox ev):
  Ac prog 46 [.agg cs.toArray] w fun v w'=>v=.int .i64 ((CX ev.2.1 [] ev.2.2.1:Nat):Int)∧St S M w':=by
 unfold Ac;refine Gz func46 rfl ?_;simp only [ntmps46,List.size_toArray,List.length_cons,List.length_nil,Nat.reduceAdd,Nat.reduceSub,Array.replicate_succ,Array.replicate_zero,List.push_toArray,List.append_toArray,List.nil_append,List.cons_append];repeat' ((apply ZZ 1);first|(apply O ();go_step)|(apply sC ();clear V;intro bx w V)|(apply sZ ();clear V;intro bk w V)|fail)
 rename Nat=>b2
 have hst0:=V.perm (List.Perm.swap _ _ _);clear V;obtain ⟨S1,hS1,V,hpe⟩:=AC (α:=Cz) hst0 hR (Z.len hR);clear hst0;generalize Value.pointer (some ⟨bx,0,none⟩)=pE at *;replace hG:=hG.mono hS1;repeat' ((apply ZZ 3);first|(apply O ();go_step)|(apply sT ();clear V;intro w V)|(apply sZ ();clear V;intro bk w V)|fail)
 rename Nat=>bi
 repeat' (first|(apply O ();go_step)|(apply kc ();refine sc (NG _ V (.func (.func 83) #[] #[.pointer (some ⟨bi,0,none⟩),pE]) rfl) ?_;clear V;rintro v w ⟨b4,rfl,V⟩)|fail)
 have hks:∀ k∈ev.2.2.1.map Hw,UG k:=fun k hk=>by
  obtain ⟨p,L,rfl⟩:=List.mem_map.1 hk;obtain ⟨h1,h2,_⟩:=ok.pt p L;exact ⟨h1,h2⟩
 have hlen:(ev.2.2.1.map Hw).length=ev.2.2.1.length:=List.length_map _;have hit:=Mi (b:=b4) (S:=S1) (gf:=83) (lb:=[.pointer (some ⟨bi,0,none⟩),pE]) inferInstance hks (A:=fun k=>[.box bi [.int .i64 (k:Nat)] 3]) (by rw [hlen];exact ZN ev ok.np _ hpe bi)
 refine OM (A:=fun k=>.box b4 [.func (.func 83) #[] [.pointer (some ⟨bi,0,none⟩),pE].toArray] 154::[.box bi [.int .i64 (k:Nat)] 3])
  (fun k T Nqq=>Nqq=.box b2 [.int .i64 0] 31::M∧Hid (CX ev.2.1 [] ev.2.2.1=CX ev.2.1 (H5 ev.2.2.1 k) (ev.2.2.1.drop k)))
  (fun T Nqq=>Nqq=.box b2 [.int .i64 ((CX ev.2.1 [] ev.2.2.1:Nat):Int)] 31::M)
  V ⟨rfl,Lib.hid rfl⟩ rfl Y hit Y ?_ (by simp) (by simp) (by simp) (by decide) (by decide) (by decide) ?_ ?_ ?_
 ·rintro k vs ⟨x,hx,rfl⟩;exact ⟨Kz x,_,rfl,rfl,rfl⟩
 ·clear V;rintro r k b cs v S2 M2 C w hk ⟨x,hx,hvs⟩ hS2 ⟨rfl,hck⟩ V;have hkl:k < ev.2.2.1.length:=by rw [hlen] at hk;exact hk
  obtain rfl:x=Hw ev.2.2.1[k]:=by rw [Oh hkl] at hx;exact (Option.some.inj hx).symm
  obtain ⟨rfl,rfl⟩:cs=Kz (Hw ev.2.2.1[k])∧v=.bool (!decide (Hw ev.2.2.1[k]∈(ev.2.2.1.map Hw).take k)):=by
   apply jv ()
  obtain ⟨hp1,hp2,hp3,hp4⟩:=ok.pt _ (List.getElem_mem hkl);have hpe:=hpe.mono hS2;have hG:=hG.mono hS2;simp only [List.cons_append,List.nil_append,Kz,Hw] at V;simp only [List.set_cons_succ,List.set_cons_zero]
  cases hfr:(!decide (Hw ev.2.2.1[k]∈(ev.2.2.1.map Hw).take k)) with
  | false =>
   repeat' ((fail_if_success (with_reducible show Code.wpIn _ _ _ (Code.region 7 _ _) _ _ _));first|with_reducible refine Ek ?_|with_reducible refine GL ?_|with_reducible refine wpIn_seq ?_|with_reducible refine wpIn_block ?_|with_reducible refine F0 ?_|(apply tS ();refine I4 V rfl N.h X Ak Y rfl rfl ?_;clear V;intro w V<;>apply nZ ()<;>(try replace V:=nH V))|(apply tL ();refine An V (Aj X Ak Y) ?_;rintro v ⟨hvl,hv1⟩<;>apply nZ ())|(apply tL ();refine An V (Aw X Ak Y) ?_;rintro v ⟨cl,rfl,hcl⟩<;>apply nZ ())|apply sY ()|(apply sJ ();intro v L)|(apply sZ ();clear V;intro bk w V)|fail)
   have hst0:=V;clear V;obtain ⟨S3,hS3,V,hpp⟩:=AC (α:=Pn) hst0 hcl (Z.len hcl);clear hst0;generalize Value.pointer (some ⟨bk,0,none⟩)=pP at *;repeat' (first|go_skip|with_reducible refine Ek ?_|with_reducible refine GL ?_|with_reducible refine Mj ?_|with_reducible refine KD ?_|with_reducible refine wpIn_seq ?_|with_reducible refine wpIn_ret ?_|with_reducible refine F0 ?_|with_reducible (refine Gp X ?_)|(apply O ();go_step)|(apply sT ();clear V;intro w V)|fail)
   refine .inr ⟨rfl,S3,.box b2 [.int .i64 ((CX ev.2.1 [] ev.2.2.1:Nat):Int)] 31::M,hS3,rfl,?_⟩;rw [hck.out,WS hkl (.inl (Og.1 (by simpa using hfr)))];exact V.drop
  | true =>
   repeat' ((fail_if_success (with_reducible show Code.wpIn _ _ _ (Code.region 7 _ _) _ _ _));first|with_reducible refine Ek ?_|with_reducible refine GL ?_|with_reducible refine wpIn_seq ?_|with_reducible refine wpIn_block ?_|with_reducible refine F0 ?_|(apply tS ();refine I4 V rfl N.h X Ak Y rfl rfl ?_;clear V;intro w V<;>apply nZ ()<;>(try replace V:=nH V))|(apply tL ();refine An V (Aj X Ak Y) ?_;rintro v ⟨hvl,hv1⟩<;>apply nZ ())|(apply tL ();refine An V (Aw X Ak Y) ?_;rintro v ⟨cl,rfl,hcl⟩<;>apply nZ ())|apply sY ()|(apply sJ ();intro v L)|(apply sZ ();clear V;intro bk w V)|fail)
   have hst0:=V;clear V;obtain ⟨S3,hS3,V,hpp⟩:=AC (α:=Pn) hst0 hcl (Z.len hcl);clear hst0;generalize Value.pointer (some ⟨bk,0,none⟩)=pP at *;have hpe:=hpe.mono hS3
   have hnew:(ev.2.2.1[k].1,ev.2.2.1[k].2.1) ∉ H5 ev.2.2.1 k:=fun h=>by
    have:=Og.2 h;simp [this] at hfr
   repeat' ((fail_if_success (with_reducible show Code.wpIn _ _ _ (Code.region 9 _ _) _ _ _));first|go_skip|apply sG ()|with_reducible refine Ek ?_|with_reducible refine GL ?_|with_reducible refine Mj ?_|with_reducible refine KD ?_|with_reducible refine wpIn_seq ?_|with_reducible refine wpIn_ret ?_|with_reducible refine wpIn_skip ?_|with_reducible refine F0 ?_|with_reducible (refine Gp X ?_)|(with_reducible refine MF X ?_ ?_<;>intro hg<;>((try simp only [decide_eq_true_eq,decide_eq_false_iff_not,Bool.not_false,Bool.not_true,beq_iff_eq,beq_eq_false_iff_ne,ne_eq,Bool.not_eq_true',Bool.not_eq_false',bne_iff_ne,bne_eq_false_iff_eq] at hg)))|(with_reducible refine Sl.k_guard ?_;refine Sl.guard_cases rfl ?_ ?_<;>intro hg<;>(simp only [hg,Bool.not_true,Bool.not_false])<;>(try replace hg:=gN hg)<;>apply nZ ())|(apply O ();go_step)|(apply tL ();refine An V (Am X Ak Y) ?_;rintro v ⟨rfl,hI⟩<;>apply nZ ())|(apply tL ();refine An V (Aj X Ak Y) ?_;rintro v ⟨hvl,hv1⟩<;>apply nZ ())|apply sY ()|(apply sJ ();intro v L)|(apply sT ();clear V;intro w V)|fail)
   all_goals first
    | (refine .inr ⟨rfl,S3,.box b2 [.int .i64 ((CX ev.2.1 [] ev.2.2.1:Nat):Int)] 31::M,hS3,rfl,?_⟩;rw [hck.out,WS hkl (.inr (by omega))];exact V.drop)
    | skip
   have hjl:ev.2.2.1[k].1.toNat < ev.2.1.length:=by omega
   have hhd:=List.getElem?_eq_getElem hjl;obtain ⟨hok,hcnt⟩:=ok.hd _ (List.getElem_mem hjl);repeat' ((fail_if_success (with_reducible show Code.wpIn _ _ _ (Code.region 10 _ _) _ _ _));first|with_reducible refine F0 ?_|(apply tL ();refine Ag V (by first|exact BW X Ak Y Y rfl|exact AT rfl _ N.h Y rfl rfl) ?_<;>apply nZ ())|(apply tL ();refine An V (Aj X Ak Y) ?_;rintro v ⟨hvl,hv1⟩<;>apply nZ ())|apply sY ()|(apply sJ ();intro v L)|(apply sZ ();clear V;intro bk w V)|fail)
   refine Cf V rfl N.h Y (x0:=ev.2.1[ev.2.2.1[k].1.toNat]) (cs:=GD ev.2.1[ev.2.2.1[k].1.toNat]) X (Dw hok) rfl ?_;clear V;intro w V;apply nZ ();(try replace V:=nH V);have hst0:=V;clear V;obtain ⟨S4,hS4,V,hph⟩:=AC (α:=Hd) hst0 (Dw hok) (Z.len (S:=S3) (Dw hok));clear hst0;generalize ev.2.1[ev.2.2.1[k].1.toNat]=H at *;generalize Value.pointer (some ⟨bk,0,none⟩)=pH at *;have hpp:=hpp.mono hS4;have hG:=hG.mono (hS3.trans hS4);repeat' ((fail_if_success (with_reducible show Code.wpIn _ _ _ (Code.region 12 _ _) _ _ _));first|go_skip|apply sG ()|with_reducible refine Ek ?_|with_reducible refine GL ?_|with_reducible refine Mj ?_|with_reducible refine KD ?_|with_reducible refine wpIn_seq ?_|with_reducible refine wpIn_ret ?_|with_reducible refine wpIn_skip ?_|with_reducible refine F0 ?_|with_reducible (refine Gp X ?_)|(with_reducible refine MF X ?_ ?_<;>intro hg<;>((try simp only [decide_eq_true_eq,decide_eq_false_iff_not,Bool.not_false,Bool.not_true,beq_iff_eq,beq_eq_false_iff_ne,ne_eq,Bool.not_eq_true',Bool.not_eq_false',bne_iff_ne,bne_eq_false_iff_eq] at hg)))|(with_reducible refine Sl.k_guard ?_;refine Sl.guard_cases rfl ?_ ?_<;>intro hg<;>(simp only [hg,Bool.not_true,Bool.not_false])<;>(try replace hg:=gN hg)<;>apply nZ ())|(apply O ();go_step)|(apply tL ();refine An V (Am X Ak Y) ?_;rintro v ⟨rfl,hI⟩<;>apply nZ ())|apply sY ()|(apply sJ ();intro v L)|(apply sT ();clear V;intro w V)|fail)
   all_goals first
    | (refine .inr ⟨rfl,S4,.box b2 [.int .i64 ((CX ev.2.1 [] ev.2.2.1:Nat):Int)] 31::M,hS3.trans hS4,rfl,?_⟩;rw [hck.out,iX hkl hhd (by omega)];exact V.drop)
    | skip
   have hpf:∀ {M:List J} (w:World) (V:St S4 M w) (u:Value) (hu:RSl S4 u ev.2.2.1[k].2.2.2.1),Ac prog 84 [Cu H.2.2.2.1,.int .i64 H.2.2.1,.int .i64 ev.2.2.1[k].2.1,Cu (BX ev.2.2.1[k].2.1 ev.2.2.1[k].2.2.1),u] w fun v w'=>v=.bool (Cj H.2.2.2.1 H.2.2.1.toNat ev.2.2.1[k].2.1.toNat (BX ev.2.2.1[k].2.1 ev.2.2.1[k].2.2.1) ev.2.2.1[k].2.2.2.1)∧St S4 M w' :=
    fun w V u hu=>UN w V hG _ _ hok.d (Hu _ _) _ _ (by omega) hcnt (by omega) hp2.2 u _ hu hp4
   have hom:=fun {b:Bool}=>iW (b:=b) hkl hhd hnew (by omega) (by omega) (by omega) (by omega) (by omega) (by omega)
   generalize Cj H.2.2.2.1 H.2.2.1.toNat ev.2.2.1[k].2.1.toNat (BX ev.2.2.1[k].2.1 ev.2.2.1[k].2.2.1) ev.2.2.1[k].2.2.2.1=vb at *;have hom:=hom rfl;refine HH (.inr ⟨_,rfl⟩) 13 V kr rfl kr ?_;simp only [List.take_succ_cons,List.take_zero,List.drop_succ_cons,List.drop_zero]
   repeat (((first|(with_reducible refine Sl.kq_load ?_;(first|refine CJ (by first|exact BW X Ak Y Y rfl|exact AT rfl _ N.h Y rfl rfl) ?_|(refine Ju (Am X Ak Y) ?_;rintro v ⟨rfl,hI⟩)|(refine Ju (Aj X Ak Y) ?_;rintro v ⟨hvl,hv1⟩)))|(with_reducible refine Sl.kq_field ?_;(first|refine CJ (Et rfl Y) ?_|((refine Ju (As X Ak Y Y rfl) ?_);rintro v L;(try simp only [Int.toNat_natCast,Int.toNat_natCast_add_one,Int.reduceToNat] at L))))|(with_reducible refine Sl.kq_call ?_;((refine JQ (fun w V=>N9 _ V hG _ _ hp2 hp3) Y rfl ?_))))<;>apply nZ ()))
   refine G5 ?_;clear V;intro w V;refine E7 (.inr ⟨_,rfl⟩) Sj rfl ?_;refine BG (hpf _ V _ Ak) Y rfl ?_;clear V;rintro v w ⟨rfl,V⟩;apply nZ ()
   cases vb with
   | false =>
    repeat' (first|with_reducible refine Ek ?_|with_reducible refine GL ?_|with_reducible refine KD ?_|with_reducible refine wpIn_seq ?_|with_reducible refine wpIn_ret ?_|with_reducible refine F0 ?_|with_reducible (refine Gp X ?_)|(apply O ();go_step)|(apply sT ();clear V;intro w V)|fail)
    refine .inr ⟨rfl,S4,.box b2 [.int .i64 ((CX ev.2.1 [] ev.2.2.1:Nat):Int)] 31::M,hS3.trans hS4,rfl,?_⟩;rw [hck.out,hom];exact V.drop
   | true =>
    repeat' (first|with_reducible refine Ek ?_|with_reducible refine GL ?_|with_reducible refine Xr ?_|with_reducible refine wpIn_skip ?_|with_reducible (refine MG X ?_)|(apply O ();go_step)|fail)
    refine .inl ⟨rfl,⟨_,Oh hkl,fun h=>hnew (Og.1 h)⟩,S4,.box b2 [.int .i64 0] 31::M,hS3.trans hS4,⟨rfl,Lib.hid (hck.out.trans hom)⟩,?_⟩;exact V.drop
 ·clear V;rintro d S2 M2 w hS2 ⟨rfl,hck⟩ V;have hck:=hck.out;rw [hlen,List.drop_length] at hck;simp only [List.cons_append,List.nil_append] at V;repeat' (first|(apply O ();go_step)|(apply sT ();clear V;intro w V)|fail)
  refine I7 V rfl (fun w' hst'=>AZ hst' rfl _ N.h Y rfl rfl) fun w' hst'=>⟨_,rfl,?_,St.weaken (hS1.trans hS2) hst'.drop.drop.drop⟩
  rw [hck];rfl
 ·clear V;rintro d k S2 M2 w hk hS2 rfl V;simp only [List.cons_append,List.nil_append] at V;repeat' (first|(apply O ();go_step)|fail)
  exact I7 V rfl (fun w' hst'=>AZ hst' rfl _ N.h Y rfl rfl) fun w' hst'=>⟨_,rfl,rfl,St.weaken (hS1.trans hS2) hst'.drop.drop.drop⟩
theorem Y7 {S M} (w) (V:St S M w) (hG:Bu S) (cs ev) (hR:Z.R S cs ev) (hm:ev.2.2.1.length≤1000):
  Ac prog 43 [.agg cs.toArray] w fun u w'=>St S (.sl u 23 16 (FM ev).length (cF EN (FM ev))::M) w':=by
 unfold Ac;go_enter func43,ntmps43;repeat' ((apply ZZ 1);first|(apply O ();go_step)|(apply sC ();clear V;intro bx w V)|fail)
 have hst0:=V;clear V;obtain ⟨S1,hS1,V,hpe⟩:=AC (α:=Ev) hst0 hR (Z.len hR);clear hst0;generalize Value.pointer (some ⟨bx,0,none⟩)=pE at *;replace hG:=hG.mono hS1;repeat' (first|(apply O ();go_step)|(apply tL ();refine An V (Aj X Ak Y) ?_;rintro v ⟨hvl,hv1⟩<;>apply nZ ())|apply sY ()|(apply sJ ();intro v L)|fail)
 have V:=V.nil 23 16
 go_loopw [3,9] (fun u v wr=>∃ (n:Nat) (c:List Dg),n≤ev.2.2.1.length∧v=.int .i64 n∧Hid (c=(List.range n).map fun (j:Nat)=>BX (j:Int) (ev.2.2.1.getD j 0))∧(n≤c.length∧c.length≤n)∧u.oneCell'=true∧St S1 (.sl u 23 16 c.length (cF EN c)::M) wr) (fun _ v _=>ev.2.2.1.length - (intOf v).toNat)
 case atStart=>exact ⟨0,[],Nat.zero_le _,rfl,Lib.hid rfl,⟨Nat.le_refl _,Nat.le_refl _⟩,rfl,V⟩
 case round =>
  clear V;obtain ⟨n,c,hn,rfl,hc,hcl2,hone,V⟩:=hrel;by_cases hlt:n < ev.2.2.1.length
  ·have hi64:=RZ hvl ev.2.2.1[n] (List.getElem_mem hlt);have hn64:Au (n:Int):=by unfold Au;omega
   have hsu:=Lib.hid (Rr BX hlt);repeat' (first|(apply O ();go_step)|(apply kc ();refine sc (N9 _ V hG (n:Int) ev.2.2.1[n] hn64 hi64) ?_;clear V;rintro v w ⟨rfl,V⟩)|(apply tL ();refine An V (Am X Ak Y) ?_;rintro v ⟨rfl,hI⟩<;>apply nZ ())|(apply sJ ();intro v L)|fail)
   refine Ay (vs:=[Cu (BX (n:Int) ev.2.2.1[n])]) V Y Y rfl rfl (by simp [Value.cells,Bh,Hu]) rfl (by omega) (by omega) ?_;clear V;intro u w V;apply nZ ();(try replace V:=nH V);refine AF (j:=0) V X X SlIn.h rfl Y Y Y (by simpa [Value.cells] using Fh (BX (n:Int) ev.2.2.1[n]).l) (by omega) (by omega) (by decide) ?_;clear V;intro v' w V;apply nZ ();(try replace V:=nH V);replace V:=V.drop;repeat' (first|(apply O ();go_step)|fail)
   have hone':=Go.Sl.AY V;go_roundw
   case rel=>exact ⟨n+1,c++[BX (n:Int) ev.2.2.1[n]],by omega,by go_num,Lib.hid (by rw [hsu.out,hc.out]),by simp;omega,hone',by rw [List.length_append,JU];exact V⟩
   case measure=>simp [intOf];omega
  ·obtain rfl:n=ev.2.2.1.length:=by omega
   have hcE:c=FM ev:=hc.out;repeat' (first|(apply O ();go_step)|fail)
   go_ret;rw [← hcE];exact ⟨_,rfl,St.weaken hS1 V⟩
theorem QD:∀ (hs:List Hd) (r:Rg),EP r→EP (hs.foldl GW r)
 | [],_,h=>h
 | h::hs,r,_=>QD hs _ (Su r h)
theorem LD (m) (hs:List Hd):EP (DL m hs):=QD hs _ (I2 m)
theorem VK (m) (hs:List Hd) {k} (hk:k < hs.length):DL m (hs.take (k+1))=GW (DL m (hs.take k)) hs[k]:=by
 rw [List.take_succ_eq_append_getElem hk,DL,List.foldl_append];rfl
theorem Ro {S M} (w) (V:St S M w) (hG:Bu S) (cs) (ev:Cz) (hR:Z.R S cs ev) (hm:ev.1.l.length=16) (hh:∀ h∈ev.2.1,FN h) (hn:ev.2.1.length≤1048576):
  Ac prog 49 [.agg cs.toArray] w fun v w'=>v=L4 (DL ev.1 ev.2.1)∧St S M w':=by
 unfold Ac;go_enter func49,ntmps49;repeat' ((apply ZZ 1);first|(apply O ();go_step)|(apply sC ();clear V;intro bx w V)|(apply sZ ();clear V;intro bk w V)|fail)
 have hst0:=V.perm (List.Perm.swap _ _ _);clear V;obtain ⟨S1,hS1,V,hpe⟩:=AC (α:=Cz) hst0 hR (Z.len hR);clear hst0;generalize Value.pointer (some ⟨bx,0,none⟩)=pE at *;replace hG:=hG.mono hS1
 haveI:LenIs ev.1.l 16:=⟨hm⟩
 repeat' (first|(apply O ();go_step)|(apply kc ();refine sc (RU _ V hG ev.1 hm) ?_;clear V;rintro v w ⟨rfl,V⟩)|apply sP ()|(apply sJ ();intro v L)|(apply sZ ();clear V;intro bk w V)|fail)
 refine Cf V rfl N.h Y (x0:=Gu ev.1) (cs:=FK (Gu ev.1)) X (Dm (I2 ev.1)) rfl ?_;clear V;intro w V;apply nZ ();(try replace V:=nH V);rename Nat=>b3
 repeat' (first|(apply O ();go_step)|(apply tL ();refine An V (Aj X Ak Y) ?_;rintro v ⟨hvl,hv1⟩<;>apply nZ ())|apply sY ()|(apply sJ ();intro v L)|fail)
 have hfs:∀ k,EP (DL ev.1 (ev.2.1.take k)):=fun k=>LD _ _
 go_loopw [12] (fun v wr=>∃ k:Nat,k≤ev.2.1.length∧v=.int .i64 k∧St S1 (.box b3 (FK (DL ev.1 (ev.2.1.take k))) 50::.box bk (FK je) 50::M) wr) (fun v _=>ev.2.1.length - (intOf v).toNat)
 case atStart=>exact ⟨0,Nat.zero_le _,rfl,V⟩
 case round =>
  clear V;obtain ⟨k,hk,rfl,V⟩:=hrel;by_cases hlt:k < ev.2.1.length
  ·have hho:=hh _ (List.getElem_mem hlt);have hfk:=hfs k;have hfk1:=hfs (k+1);have hsu:=Lib.hid (VK ev.1 ev.2.1 hlt);rw [hsu.out] at hfk1;repeat' (first|(apply O ();go_step)|apply sP ()|(apply sJ ();intro v L)|(apply sZ ();clear V;intro bk w V)|fail)
   refine Cf V rfl N.h Y (x0:=ev.2.1[k]) (cs:=GD ev.2.1[k]) X (Dw hho) rfl ?_;clear V;intro w V;apply nZ ();(try replace V:=nH V);generalize DL ev.1 (ev.2.1.take k)=F at *;generalize ev.2.1[k]=E at *;have hrF:Z.R S1 (FK F) F:=Dm hfk;have hrE:Z.R S1 (GD E) E:=Dw hho;repeat' (first|(apply O ();go_step)|(apply tL ();with_unfolding_all refine Ag V (by first|exact Gb (x0:=F) rfl N.h hrF Y|exact Gb (x0:=E) rfl N.h hrE Y) ?_<;>apply nZ ())|(apply kc ();refine sc (QF _ V hG F hfk E hho) ?_;clear V;rintro v w ⟨rfl,V⟩)|fail)
   refine Cf V rfl N.h Y (x0:=GW F E) (cs:=FK (GW F E)) X (Dm hfk1) (Z.len hrF) ?_;clear V;intro w V;apply nZ ();(try replace V:=nH V);repeat' (first|(apply O ();go_step)|fail)
   go_roundw
   case rel=>exact ⟨k+1,by omega,by go_num,by rw [hsu.out];exact V.drop⟩
   case measure=>simp [intOf];omega
  ·obtain rfl:k=ev.2.1.length:=by omega
   rw [List.take_length] at V;have hfa:=LD ev.1 ev.2.1;have hrA:Z.R S1 (FK (DL ev.1 ev.2.1)) (DL ev.1 ev.2.1):=Dm hfa;repeat' (first|(apply O ();go_step)|(apply tL ();with_unfolding_all refine Ag V (Gb (x0:=DL ev.1 ev.2.1) rfl N.h hrA Y) ?_<;>apply nZ ())|fail)
   refine Cf V rfl N.h Y (x0:=DL ev.1 ev.2.1) (cs:=FK (DL ev.1 ev.2.1)) X hrA rfl ?_;clear V;intro w V;apply nZ ();(try replace V:=nH V);repeat' (first|(apply O ();go_step)|fail)
   exact Pq rfl V rfl N.h Y hrA ⟨_,rfl,rfl,St.weaken hS1 V.drop.drop⟩
end Go.Proofs.YtmmbidoldegemaaGreatDoor
