/- Part 18 of the proof that the law of the last part holds; no conditions. -/
import Derived.Test.YtmmbidoldegemaaGreatDoorZ16
set_option linter.unusedSimpArgs false
set_option linter.unusedVariables false
set_option maxRecDepth 8000
set_option maxHeartbeats 8000000
namespace Go.Proofs.YtmmbidoldegemaaGreatDoor
open Go.RowKit Go.Sl
theorem ZH {S M} (w:World) (hst:St S M w) (hG:Bo S) (vl:Value) (l:List Dg) (hl:RSl S vl l) (i:Nat) (hi:i < l.length) (hm:l.length≤1000) :
  Ad Tryz.prog 42 [vl,.int .i64 (i:Int)] w fun v w'=>∃ u,v=.tuple #[u,.int .i64 0]∧St S (.sl u 23 16 (Be l i).length (cF Eo (Be l i))::M) w':=by
 unfold Ad;go_enter Tryz.func42,Tryz.ntmps42;repeat' (first|apply sG ()|(apply gK ();go_step)|apply sY ()|(apply sT ();clear hst;intro w hst)|(apply sZ ();clear hst;intro bk w hst)|fail)
 rename Nat=>b7
 have hst:=hst.nil 23 16;refine DU (bG l.length _ b7 bk (.slice none 0 0) [] hst hG vl l hl i hi (Nat.le_refl _) hm (by simp;omega)) rfl Aa rfl rfl ?_;clear hst;rintro v w ⟨u,hst⟩;rw [List.nil_append] at hst;have hu:=AW hst;refine nY ?_;repeat' (first|(apply gK ();go_step)|apply sY ()|fail)
 go_ret2
 exact ⟨_,rfl,u,rfl,hst.swap.drop.swap.drop⟩
theorem Xj {S M} (w:World) (hst:St S M w) (vl:Value) (l:List Dg) (hl:RSl S vl l) (i:Int) (hi:i < 0∨l.length≤i) (hm:l.length≤1000) :
  Ad Tryz.prog 42 [vl,.int .i64 i] w fun v w'=>v=.tuple #[.slice none 0 0,.int .i64 1]∧St S M w':=by
 unfold Ad;by_cases h0:i < 0
 ·go_enter Tryz.func42,Tryz.ntmps42;repeat' (first|go_skip|(apply gK ();go_step)|fail)
  go_ret2
  exact ⟨_,rfl,rfl,hst⟩
 ·have h1:(l.length:Int)≤i:=by omega
  go_enter Tryz.func42,Tryz.ntmps42;repeat' (first|apply sG ()|(apply gK ();go_step)|apply sY ()|fail)
  go_ret2
  exact ⟨_,rfl,rfl,hst⟩
theorem de {S:Ac} {d:Dg} (h:d.l.length=16):Rep.R S (u8s d.l) d:=by exact ⟨h,KL d.l⟩
theorem Wi {S M} (w:World) (hst:St S M w) (hG:Bo S) (root leaf:Dg) (hr:root.l.length=16) (hf:leaf.l.length=16) (n i:Nat) (hn:n≤1000) (hi:i≤9223372036854775807) (vp:Value) (proof:List Dg) (hp:RSl S vp proof) (hpm:proof.length≤1048576) :
  Ad Tryz.prog 84 [Cu root,.int .i64 (n:Int),.int .i64 (i:Int),Cu leaf,vp] w fun v w'=>v=.bool (B7 root n i leaf proof)∧St S M w':=by
 unfold Ad
 haveI:LenIs leaf.l 16:=⟨hf⟩
 haveI:LenIs root.l 16:=⟨hr⟩
 by_cases hin:i < n
 ·have hV:Hid (B7 root n i leaf proof=(decide ((Cy n i).length=proof.length) && decide (IB (Cy n i) leaf proof=root))):=Lib.hid (by simp [B7,hin]);go_enter Tryz.func84,Tryz.ntmps84;repeat' (first|apply sG ()|(apply gK ();go_step)|(apply sC ();clear hst;intro bx w hst)|fail)
  rename Nat=>b8
  have hst:=hst.nil 4 1
  go_loopw [1,2,11] (fun vn vi vs wr=>∃ (n' i':Nat) (c:List Bool),i' < n'∧n'≤n∧i'≤i∧vn=.int .i64 n'∧vi=.int .i64 i'∧Hid (c++Cy n' i'=Cy n i)∧c.length+n'≤n+1∧vs.oneCell'=true∧St S (.sl vs 4 1 c.length (cF EH c)::.box b8 (u8s leaf.l) 23::.box bx (u8s root.l) 23::M) wr) (fun vn _ _ _=>(intOf vn).toNat)
  case atStart=>exact ⟨n,i,[],hin,Nat.le_refl _,Nat.le_refl _,rfl,rfl,Lib.hid rfl,by simp,rfl,hst⟩
  case round =>
   clear hst;obtain ⟨n',i',c,h1,h2,h3,rfl,rfl,hc,hcl,hone,hst⟩:=hrel;by_cases hn2:2≤n'
   ·obtain ⟨hs1,hs2⟩:=Cd hn2;have hL:=Lib.hid (fun h=>K7 (i:=i') hn2 h);have hR:=Lib.hid (fun h=>J4 (i:=i') hn2 h);have hsp:=fun {S M} (w:World) (hst:St S M w)=>MY w hst n' hn2 (by omega)
    generalize At n'=k at *;by_cases hik:i' < k
    ·repeat' (first|(apply gK ();go_step)|(apply kc ();refine sc (hsp _ hst) ?_;clear hst;rintro v w ⟨rfl,hst⟩)|fail)
     refine AA (vs:=[.bool true]) hst Aa Aa rfl rfl (by simp [Value.cells]) rfl (by omega) (by omega) ?_;clear hst;intro u w hst;refine nY ?_;refine AG (j:=0) hst Ab Ab SlIn.h rfl Aa Aa Aa (by simp [Value.cells,Value.oneCell']) (by omega) (by omega) (by decide) ?_;clear hst;intro v' w hst;refine nY ?_;(try replace hst:=nH hst);replace hst:=hst.drop;repeat' (first|(apply gK ();go_step)|fail)
     have hone':=AW hst;go_roundw
     case rel=>exact ⟨k,i',c++[true],hik,by omega,h3,rfl,rfl,Lib.hid (by rw [← hc.out,hL.out hik,List.append_assoc];rfl),by simp;omega,hone',by rw [List.length_append,I7];exact hst⟩
     case measure=>simp [intOf];omega
    ·have e1:((n':Int) - (k:Int))=((n' - k:Nat):Int):=by omega
     have e2:((i':Int) - (k:Int))=((i' - k:Nat):Int):=by omega
     repeat' (first|(apply gK ();go_step)|(apply kc ();refine sc (hsp _ hst) ?_;clear hst;rintro v w ⟨rfl,hst⟩)|fail)
     refine AA (vs:=[.bool false]) hst Aa Aa rfl rfl (by simp [Value.cells]) rfl (by omega) (by omega) ?_;clear hst;intro u w hst;refine nY ?_;refine AG (j:=0) hst Ab Ab SlIn.h rfl Aa Aa Aa (by simp [Value.cells,Value.oneCell']) (by omega) (by omega) (by decide) ?_;clear hst;intro v' w hst;refine nY ?_;(try replace hst:=nH hst);replace hst:=hst.drop;repeat' (first|(apply gK ();go_step)|fail)
     have hone':=AW hst;have E1:=Lib.hid e1;have E2:=Lib.hid e2;clear e1 e2;go_roundw
     case rel=>exact ⟨n' - k,i' - k,c++[false],by omega,by omega,by omega,by first|rfl|rw [E1.out],by first|rfl|rw [E2.out],Lib.hid (by rw [← hc.out,hR.out hik,List.append_assoc];rfl),by simp;omega,hone',by rw [List.length_append,I7];exact hst⟩
     case measure =>
      have:=E1.out;simp [intOf];omega
   ·obtain rfl:n'=1:=by omega
    obtain rfl:i'=0:=by omega
    have hcs:Hid (c=Cy n i):=Lib.hid (by rw [← hc.out,R9 (by omega),List.append_nil]);clear hc;by_cases hlen:c.length=proof.length
    ·have hne:((c.length:Int) != (proof.length:Int))=false:=bne_eq_false_iff_eq.2 (by omega)
     have hV3:Hid (B7 root n i leaf proof=decide (((c.reverse.zip proof).take proof.length).foldl Hz (Dk leaf)=root)):=Lib.hid (by
      rw [hV.out,← hcs.out,IB,List.take_of_length_le (by rw [List.length_zip];omega)];simp [hlen])
     have hll:c.length≤proof.length∧proof.length≤c.length:=by omega
     have hd16:=hp.dgs;clear hlen;repeat' (first|(with_reducible refine kS ?_;refine FX hst rfl BoxIn.h Aa Ab Aa H6 ?_;clear hst;intro w hst<;>(try refine nY ?_)<;>(try replace hst:=nH hst))|(apply gK ();go_step)|(apply kc ();refine sc (U3 _ hst hG leaf hf) ?_;clear hst;rintro v w ⟨rfl,hst⟩)|(with_reducible refine kL ?_;refine Ag hst (by exact Jt Ab BoxIn.h Aa Aa) ?_<;>(try refine nY ?_))|apply sY ()|(apply sZ ();clear hst;intro bk w hst)|fail)
     clear hne;rename Nat=>PX
     go_loopw [52] (fun v wr=>∃ (j:Nat) (d:Dg),j≤proof.length∧v=.int .i64 j∧Hid (d=((c.reverse.zip proof).take j).foldl Hz (Dk leaf))∧d.l.length=16∧St S (.box PX (u8s d.l) 23::.sl u11 4 1 c.length (cF EH c)::.box b8 (u8s leaf.l) 23::.box bx (u8s root.l) 23::M) wr) (fun v _=>proof.length - (intOf v).toNat)
     case atStart=>exact ⟨0,_,Nat.zero_le _,rfl,Lib.hid rfl,Kj _,hst⟩
     case round =>
      clear hst;obtain ⟨j,d,hj,rfl,hd,hdl,hst⟩:=hrel
      haveI:LenIs d.l 16:=⟨hdl⟩
      by_cases hlt:j < proof.length
      ·have hpj:=hd16 proof[j] (List.getElem_mem hlt)
       haveI:LenIs proof[j].l 16:=⟨hpj⟩
       have hcj:c.length - 1 - j < c.length:=by omega
       have hsd:Hid (((c.reverse.zip proof).take (j+1)).foldl Hz (Dk leaf)=Hz d (c[c.length - 1 - j],proof[j])):=Lib.hid (by
        have hz:j < (c.reverse.zip proof).length:=by rw [List.length_zip,List.length_reverse];omega
        rw [List.take_succ_eq_append_getElem hz,List.foldl_append,← hd.out,List.getElem_zip,List.getElem_reverse];rfl)
       have ej:((c.length:Int) - 1 - (j:Int))=((c.length - 1 - j:Nat):Int):=by omega
       repeat' (first|(with_reducible refine kI ?_;(first|refine An hst (Ao Ab Ak rfl Aa Aa Af Af) ?_|refine An hst (Aq hst Ab SlIn.h rfl Aa Aa Af Af) ?_);rintro v hp;(try simp only [Int.toNat_natCast,Int.toNat_natCast_add_one,Int.reduceToNat] at hp)<;>(try refine nY ?_))|(with_reducible refine kS ?_;refine FX hst rfl BoxIn.h Aa Ab Aa H6 ?_;clear hst;intro w hst<;>(try refine nY ?_)<;>(try replace hst:=nH hst))|(apply gK ();go_step)|(apply kc ();refine sc (Nc _ hst hG d proof[j] hdl hpj) ?_;clear hst;rintro v w ⟨rfl,hst⟩)|(apply kc ();refine sc (Nc _ hst hG proof[j] d hpj hdl) ?_;clear hst;rintro v w ⟨rfl,hst⟩)|(with_reducible refine kL ?_;refine Ag hst (by first|exact Bp Ab Ak Aa Aa rfl|exact Jt Ab BoxIn.h Aa Aa) ?_<;>(try refine nY ?_))|(with_reducible refine kL ?_;refine Ag hst (by exact Mg Ab Ak SlIn.h Aa Af) ?_<;>(try refine nY ?_))|apply sY ()|(apply sZ ();clear hst;intro bk w hst)|fail)
       all_goals
        have hb:=Lib.hid (by assumption:c[c.length - 1 - j]=_);replace hst:=hst.drop;go_roundw
        case rel=>exact ⟨j+1,_,by omega,by go_num,Lib.hid (by rw [hsd.out,Hz,hb.out];rfl),Kf _ _,hst⟩
        case measure=>simp [intOf];omega
      ·obtain rfl:j=proof.length:=by omega
       repeat' (first|(with_reducible refine kB ?_;refine Ag hst (I2 rfl rfl (de hdl) (de hr) Aa Aa Aa) ?_<;>(try refine nY ?_))|(apply gK ();go_step)|(with_reducible refine kL ?_;refine Ag hst (by exact Jt Ab BoxIn.h Aa Aa) ?_<;>(try refine nY ?_))|fail)
       go_ret;exact ⟨_,rfl,by rw [hV3.out,← hd.out];rfl,hst.drop.drop.drop.drop⟩
    ·have hV2:Hid (B7 root n i leaf proof=false):=Lib.hid (by rw [hV.out,← hcs.out];simp [hlen]);have hne:((c.length:Int) != (proof.length:Int))=true:=bne_iff_ne.2 (by omega);repeat' (first|(apply gK ();go_step)|apply sY ()|fail)
     go_ret;exact ⟨_,rfl,by rw [hV2.out];rfl,hst.drop.drop.drop⟩
 ·have hV:Hid (B7 root n i leaf proof=false):=Lib.hid (by simp [B7,hin]);go_enter Tryz.func84,Tryz.ntmps84;repeat' (first|apply sG ()|(apply gK ();go_step)|(apply sC ();clear hst;intro bx w hst)|fail)
  go_ret;exact ⟨_,rfl,by rw [hV.out];rfl,hst.drop.drop⟩
def dr (p:Pn):Int×Int:=(p.1,p.2.1)
def G1 (ps:List Pn) (k:Nat):List (Int×Int):=((ps.take k).map dr).reverse
theorem Nj {ps:List Pn} {k:Nat} {p:Pn}:GQ p∈(ps.map GQ).take k↔(p.1,p.2.1)∈G1 ps k:=by
 unfold G1;rw [List.mem_reverse,← List.map_take];constructor
 ·intro h;obtain ⟨q,hq,he⟩:=List.mem_map.1 h;refine List.mem_map.2 ⟨q,hq,?_⟩;simp only [GQ,Prod.mk.injEq] at he;simp [dr,he.1,he.2]
 ·intro h;obtain ⟨q,hq,he⟩:=List.mem_map.1 h;refine List.mem_map.2 ⟨q,hq,?_⟩;simp only [dr,Prod.mk.injEq] at he;simp [GQ,he.1,he.2]
theorem Yy {ps:List Pn} {k:Nat} (hk:k < ps.length):G1 ps (k+1)=(ps[k].1,ps[k].2.1)::G1 ps k:=by
 unfold G1;rw [List.take_succ_eq_append_getElem hk,List.map_append,List.reverse_append];rfl
theorem Nw {hs:List Hd} {ps:List Pn} {k:Nat} (hk:k < ps.length):CJ hs (G1 ps k) (ps.drop k)=if (ps[k].1,ps[k].2.1)∈G1 ps k∨ps[k].1 < 0∨hs.length≤ps[k].1∨ps[k].2.2.1 < 0∨3 < ps[k].2.2.1 then 1 else
  match hs[ps[k].1.toNat]? with
  | none=>1
  | some h=>if ps[k].2.1 < 0∨h.2.2.1≤ps[k].2.1 then 1 else
   if B7 h.2.2.2.1 h.2.2.1.toNat ps[k].2.1.toNat (BK ps[k].2.1 ps[k].2.2.1) ps[k].2.2.2.1 then CJ hs (G1 ps (k+1)) (ps.drop (k+1)) else 16:=by
 rw [List.drop_eq_getElem_cons hk,CJ,Yy hk];all_goals rfl
theorem VL {hs:List Hd} {ps:List Pn} {k:Nat} (hk:k < ps.length) (h:(ps[k].1,ps[k].2.1)∈G1 ps k∨ps[k].1 < 0∨hs.length≤ps[k].1∨ps[k].2.2.1 < 0∨3 < ps[k].2.2.1):CJ hs (G1 ps k) (ps.drop k)=1:=by
 rw [Nw hk,if_pos h]
theorem fV {hs:List Hd} {ps:List Pn} {k:Nat} (hk:k < ps.length) {h:Hd} (hh:hs[ps[k].1.toNat]? = some h) (hi:ps[k].2.1 < 0∨h.2.2.1≤ps[k].2.1):CJ hs (G1 ps k) (ps.drop k)=1:=by
 rw [Nw hk,hh];split
 ·rfl
 ·simp only [if_pos hi]
theorem fU {hs:List Hd} {ps:List Pn} {k:Nat} (hk:k < ps.length) {h:Hd} (hh:hs[ps[k].1.toNat]? = some h) (hn:(ps[k].1,ps[k].2.1) ∉ G1 ps k) (h1:0≤ps[k].1) (h2:ps[k].1 < hs.length) (h3:0≤ps[k].2.2.1) (h4:ps[k].2.2.1≤3) (hi:0≤ps[k].2.1) (hi2:ps[k].2.1 < h.2.2.1) {b:Bool}
  (hb:B7 h.2.2.2.1 h.2.2.1.toNat ps[k].2.1.toNat (BK ps[k].2.1 ps[k].2.2.1) ps[k].2.2.2.1=b):CJ hs (G1 ps k) (ps.drop k)=if b then CJ hs (G1 ps (k+1)) (ps.drop (k+1)) else 16:=by
 rw [Nw hk,hh,if_neg (by rintro (h|h);exact hn h;omega)];simp only [if_neg (show ¬ (ps[k].2.1 < 0∨h.2.2.1≤ps[k].2.1) by omega),hb]
theorem Tx {S M} (w:World) (hst:St S M w) (hG:Bo S) (root leaf:Dg) (hr:root.l.length=16) (hf:leaf.l.length=16) (n i:Int) (h0:0≤n) (hn:n≤1000) (hi0:0≤i) (hi:i≤9223372036854775807) (vp:Value) (proof:List Dg) (hp:RSl S vp proof) (hpm:proof.length≤1048576) :
  Ad Tryz.prog 84 [Cu root,.int .i64 n,.int .i64 i,Cu leaf,vp] w fun v w'=>v=.bool (B7 root n.toNat i.toNat leaf proof)∧St S M w':=by
 obtain ⟨n,rfl⟩:=Int.eq_ofNat_of_zero_le h0;obtain ⟨i,rfl⟩:=Int.eq_ofNat_of_zero_le hi0;exact Wi w hst hG root leaf hr hf n i (by omega) (by omega) vp proof hp hpm
structure Nz (ev:Br):Prop where
 hd:∀ h∈ev.2.1,Fo h∧h.2.2.1≤1000
 pt:∀ p∈ev.2.2.1,Au p.1∧Au p.2.1∧Au p.2.2.1∧p.2.2.2.1.length≤1048576
 nh:ev.2.1.length≤1048576
 np:ev.2.2.1.length≤1048576
theorem RE {S M} (w:World) (hst:St S M w) (hG:Bo S) (cs:List Value) (ev:Br) (hR:Rep.R S cs ev) (ok:Nz ev) :
  Ad Tryz.prog 46 [.agg cs.toArray] w fun v w'=>v=.int .i64 ((CJ ev.2.1 [] ev.2.2.1:Nat):Int)∧St S M w':=by
 unfold Ad;refine FZ Tryz.func46 rfl ?_;simp only [Tryz.ntmps46,List.size_toArray,List.length_cons,List.length_nil,Nat.reduceAdd,Nat.reduceSub,Array.replicate_succ,Array.replicate_zero,List.push_toArray,List.append_toArray,List.nil_append,List.cons_append];repeat' ((apply Z1 ());first|(apply gK ();go_step)|(apply sC ();clear hst;intro bx w hst)|(apply sZ ();clear hst;intro bk w hst)|fail)
 rename Nat=>b2
 have hst0:=hst.perm (List.Perm.swap _ _ _);clear hst;obtain ⟨S1,hS1,hst,hpe⟩:=AC (α:=Br) hst0 hR (Rep.len hR);clear hst0;generalize Value.pointer (some ⟨bx,0,none⟩)=pE at *;replace hG:=hG.mono hS1;repeat' ((apply Z3 ());first|(apply gK ();go_step)|(apply sT ();clear hst;intro w hst)|(apply sZ ();clear hst;intro bk w hst)|fail)
 rename Nat=>bi
 repeat' (first|(apply gK ();go_step)|(apply kc ();refine sc (MF _ hst (.func (.func 83) #[] #[.pointer (some ⟨bi,0,none⟩),pE]) rfl) ?_;clear hst;rintro v w ⟨b4,rfl,hst⟩)|fail)
 have hks:∀ k∈ev.2.2.1.map GQ,Ts k:=fun k hk=>by
  obtain ⟨p,hp,rfl⟩:=List.mem_map.1 hk;obtain ⟨h1,h2,_⟩:=ok.pt p hp;exact ⟨h1,h2⟩
 have hlen:(ev.2.2.1.map GQ).length=ev.2.2.1.length:=List.length_map _;have hit:=Lp (b:=b4) (S:=S1) (gf:=83) (lb:=[.pointer (some ⟨bi,0,none⟩),pE]) inferInstance hks (A:=fun k=>[.box bi [.int .i64 (k:Nat)] 3]) (by rw [hlen];exact Ys ev ok.np _ hpe bi)
 refine NO (A:=fun k=>.box b4 [.func (.func 83) #[] [.pointer (some ⟨bi,0,none⟩),pE].toArray] 154::[.box bi [.int .i64 (k:Nat)] 3])
  (fun k T N=>N=.box b2 [.int .i64 0] 31::M∧Hid (CJ ev.2.1 [] ev.2.2.1=CJ ev.2.1 (G1 ev.2.2.1 k) (ev.2.2.1.drop k)))
  (fun T N=>N=.box b2 [.int .i64 ((CJ ev.2.1 [] ev.2.2.1:Nat):Int)] 31::M)
  hst ⟨rfl,Lib.hid rfl⟩ rfl Aa hit Aa ?_ (by simp) (by simp) (by simp) (by decide) (by decide) (by decide) ?_ ?_ ?_
 ·rintro k vs ⟨x,hx,rfl⟩;exact ⟨JP x,_,rfl,rfl,rfl⟩
 ·clear hst;rintro r k b cs v S2 M2 C w hk ⟨x,hx,hvs⟩ hS2 ⟨rfl,hck⟩ hst;have hkl:k < ev.2.2.1.length:=by rw [hlen] at hk;exact hk
  obtain rfl:x=GQ ev.2.2.1[k]:=by rw [Nk hkl] at hx;exact (Option.some.inj hx).symm
  obtain ⟨rfl,rfl⟩:cs=JP (GQ ev.2.2.1[k])∧v=.bool (!decide (GQ ev.2.2.1[k]∈(ev.2.2.1.map GQ).take k)):=by
   apply gx ()
  obtain ⟨hp1,hp2,hp3,hp4⟩:=ok.pt _ (List.getElem_mem hkl);have hpe:=hpe.mono hS2;have hG:=hG.mono hS2;simp only [List.cons_append,List.nil_append,JP,GQ] at hst;simp only [List.set_cons_succ,List.set_cons_zero]
  cases hfr:(!decide (GQ ev.2.2.1[k]∈(ev.2.2.1.map GQ).take k)) with
  | false =>
   repeat' ((fail_if_success (with_reducible show Code.wpIn _ _ _ (Code.region 7 _ _) _ _ _));first|with_reducible refine DX ?_|with_reducible refine Gf ?_|with_reducible refine wpIn_seq ?_|with_reducible refine wpIn_block ?_|with_reducible refine Fy ?_|(with_reducible refine kS ?_;refine Jm hst rfl BoxIn.h Ab Ak Aa rfl rfl ?_;clear hst;intro w hst<;>(try refine nY ?_)<;>(try replace hst:=nH hst))|(with_reducible refine kL ?_;refine An hst (Ae Ab Ak Aa) ?_;rintro v ⟨hvl,hv1⟩<;>(try refine nY ?_))|(with_reducible refine kL ?_;refine An hst (Av Ab Ak Aa) ?_;rintro v ⟨cl,rfl,hcl⟩<;>(try refine nY ?_))|apply sY ()|(apply sJ ();intro v hp)|(apply sZ ();clear hst;intro bk w hst)|fail)
   have hst0:=hst;clear hst;obtain ⟨S3,hS3,hst,hpp⟩:=AC (α:=Pn) hst0 hcl (Rep.len hcl);clear hst0;generalize Value.pointer (some ⟨bk,0,none⟩)=pP at *;repeat' (first|go_skip|with_reducible refine DX ?_|with_reducible refine Gf ?_|with_reducible refine Ls ?_|with_reducible refine JS ?_|with_reducible refine wpIn_seq ?_|with_reducible refine wpIn_ret ?_|with_reducible refine Fy ?_|with_reducible (refine FO Ab ?_)|(apply gK ();go_step)|(apply sT ();clear hst;intro w hst)|fail)
   refine .inr ⟨rfl,S3,.box b2 [.int .i64 ((CJ ev.2.1 [] ev.2.2.1:Nat):Int)] 31::M,hS3,rfl,?_⟩;rw [hck.out,VL hkl (.inl (Nj.1 (by simpa using hfr)))];exact hst.drop
  | true =>
   repeat' ((fail_if_success (with_reducible show Code.wpIn _ _ _ (Code.region 7 _ _) _ _ _));first|with_reducible refine DX ?_|with_reducible refine Gf ?_|with_reducible refine wpIn_seq ?_|with_reducible refine wpIn_block ?_|with_reducible refine Fy ?_|(with_reducible refine kS ?_;refine Jm hst rfl BoxIn.h Ab Ak Aa rfl rfl ?_;clear hst;intro w hst<;>(try refine nY ?_)<;>(try replace hst:=nH hst))|(with_reducible refine kL ?_;refine An hst (Ae Ab Ak Aa) ?_;rintro v ⟨hvl,hv1⟩<;>(try refine nY ?_))|(with_reducible refine kL ?_;refine An hst (Av Ab Ak Aa) ?_;rintro v ⟨cl,rfl,hcl⟩<;>(try refine nY ?_))|apply sY ()|(apply sJ ();intro v hp)|(apply sZ ();clear hst;intro bk w hst)|fail)
   have hst0:=hst;clear hst;obtain ⟨S3,hS3,hst,hpp⟩:=AC (α:=Pn) hst0 hcl (Rep.len hcl);clear hst0;generalize Value.pointer (some ⟨bk,0,none⟩)=pP at *;have hpe:=hpe.mono hS3
   have hnew:(ev.2.2.1[k].1,ev.2.2.1[k].2.1) ∉ G1 ev.2.2.1 k:=fun h=>by
    have:=Nj.2 h;simp [this] at hfr
   repeat' ((fail_if_success (with_reducible show Code.wpIn _ _ _ (Code.region 9 _ _) _ _ _));first|go_skip|apply sG ()|with_reducible refine DX ?_|with_reducible refine Gf ?_|with_reducible refine Ls ?_|with_reducible refine JS ?_|with_reducible refine wpIn_seq ?_|with_reducible refine wpIn_ret ?_|with_reducible refine wpIn_skip ?_|with_reducible refine Fy ?_|with_reducible (refine FO Ab ?_)|(with_reducible refine LP Ab ?_ ?_<;>intro hg<;>((try simp only [decide_eq_true_eq,decide_eq_false_iff_not,Bool.not_false,Bool.not_true,beq_iff_eq,beq_eq_false_iff_ne,ne_eq,Bool.not_eq_true',Bool.not_eq_false',bne_iff_ne,bne_eq_false_iff_eq] at hg)))|(with_reducible refine Sl.k_guard ?_;refine Sl.guard_cases rfl ?_ ?_<;>intro hg<;>(simp only [hg,Bool.not_true,Bool.not_false])<;>(try replace hg:=gN hg)<;>(try refine nY ?_))|(apply gK ();go_step)|(with_reducible refine kL ?_;refine An hst (Am Ab Ak Aa) ?_;rintro v ⟨rfl,hI⟩<;>(try refine nY ?_))|(with_reducible refine kL ?_;refine An hst (Ae Ab Ak Aa) ?_;rintro v ⟨hvl,hv1⟩<;>(try refine nY ?_))|apply sY ()|(apply sJ ();intro v hp)|(apply sT ();clear hst;intro w hst)|fail)
   all_goals first
    | (refine .inr ⟨rfl,S3,.box b2 [.int .i64 ((CJ ev.2.1 [] ev.2.2.1:Nat):Int)] 31::M,hS3,rfl,?_⟩;rw [hck.out,VL hkl (.inr (by omega))];exact hst.drop)
    | skip
   have hjl:ev.2.2.1[k].1.toNat < ev.2.1.length:=by omega
   have hhd:=List.getElem?_eq_getElem hjl;obtain ⟨hok,hcnt⟩:=ok.hd _ (List.getElem_mem hjl);repeat' ((fail_if_success (with_reducible show Code.wpIn _ _ _ (Code.region 10 _ _) _ _ _));first|with_reducible refine Fy ?_|(with_reducible refine kL ?_;refine Ag hst (by first|exact Bp Ab Ak Aa Aa rfl|exact AM rfl _ BoxIn.h Aa rfl rfl) ?_<;>(try refine nY ?_))|(with_reducible refine kL ?_;refine An hst (Ae Ab Ak Aa) ?_;rintro v ⟨hvl,hv1⟩<;>(try refine nY ?_))|apply sY ()|(apply sJ ();intro v hp)|(apply sZ ();clear hst;intro bk w hst)|fail)
   refine CN hst rfl BoxIn.h Aa (x0:=ev.2.1[ev.2.2.1[k].1.toNat]) (cs:=F6 ev.2.1[ev.2.2.1[k].1.toNat]) Ab (CS hok) rfl ?_;clear hst;intro w hst;(try refine nY ?_);(try replace hst:=nH hst);have hst0:=hst;clear hst;obtain ⟨S4,hS4,hst,hph⟩:=AC (α:=Hd) hst0 (CS hok) (Rep.len (S:=S3) (CS hok));clear hst0;generalize ev.2.1[ev.2.2.1[k].1.toNat]=H at *;generalize Value.pointer (some ⟨bk,0,none⟩)=pH at *;have hpp:=hpp.mono hS4;have hG:=hG.mono (hS3.trans hS4);repeat' ((fail_if_success (with_reducible show Code.wpIn _ _ _ (Code.region 12 _ _) _ _ _));first|go_skip|apply sG ()|with_reducible refine DX ?_|with_reducible refine Gf ?_|with_reducible refine Ls ?_|with_reducible refine JS ?_|with_reducible refine wpIn_seq ?_|with_reducible refine wpIn_ret ?_|with_reducible refine wpIn_skip ?_|with_reducible refine Fy ?_|with_reducible (refine FO Ab ?_)|(with_reducible refine LP Ab ?_ ?_<;>intro hg<;>((try simp only [decide_eq_true_eq,decide_eq_false_iff_not,Bool.not_false,Bool.not_true,beq_iff_eq,beq_eq_false_iff_ne,ne_eq,Bool.not_eq_true',Bool.not_eq_false',bne_iff_ne,bne_eq_false_iff_eq] at hg)))|(with_reducible refine Sl.k_guard ?_;refine Sl.guard_cases rfl ?_ ?_<;>intro hg<;>(simp only [hg,Bool.not_true,Bool.not_false])<;>(try replace hg:=gN hg)<;>(try refine nY ?_))|(apply gK ();go_step)|(with_reducible refine kL ?_;refine An hst (Am Ab Ak Aa) ?_;rintro v ⟨rfl,hI⟩<;>(try refine nY ?_))|apply sY ()|(apply sJ ();intro v hp)|(apply sT ();clear hst;intro w hst)|fail)
   all_goals first
    | (refine .inr ⟨rfl,S4,.box b2 [.int .i64 ((CJ ev.2.1 [] ev.2.2.1:Nat):Int)] 31::M,hS3.trans hS4,rfl,?_⟩;rw [hck.out,fV hkl hhd (by omega)];exact hst.drop)
    | skip
   have hpf:∀ {M:List Chunk} (w:World) (hst:St S4 M w) (u:Value) (hu:RSl S4 u ev.2.2.1[k].2.2.2.1),Ad Tryz.prog 84 [Cu H.2.2.2.1,.int .i64 H.2.2.1,.int .i64 ev.2.2.1[k].2.1,Cu (BK ev.2.2.1[k].2.1 ev.2.2.1[k].2.2.1),u] w fun v w'=>v=.bool (B7 H.2.2.2.1 H.2.2.1.toNat ev.2.2.1[k].2.1.toNat (BK ev.2.2.1[k].2.1 ev.2.2.1[k].2.2.1) ev.2.2.1[k].2.2.2.1)∧St S4 M w' :=
    fun w hst u hu=>Tx w hst hG _ _ hok.d (GP _ _) _ _ (by omega) hcnt (by omega) hp2.2 u _ hu hp4
   have hom:=fun {b:Bool}=>fU (b:=b) hkl hhd hnew (by omega) (by omega) (by omega) (by omega) (by omega) (by omega)
   generalize B7 H.2.2.2.1 H.2.2.1.toNat ev.2.2.1[k].2.1.toNat (BK ev.2.2.1[k].2.1 ev.2.2.1[k].2.2.1) ev.2.2.1[k].2.2.2.1=vb at *;have hom:=hom rfl;refine GW (.inr ⟨_,rfl⟩) 13 hst kr rfl kr ?_;simp only [List.take_succ_cons,List.take_zero,List.drop_succ_cons,List.drop_zero]
   repeat (((first|(with_reducible refine Sl.kq_load ?_;(first|refine Cw (by first|exact Bp Ab Ak Aa Aa rfl|exact AM rfl _ BoxIn.h Aa rfl rfl) ?_|(refine IM (Am Ab Ak Aa) ?_;rintro v ⟨rfl,hI⟩)|(refine IM (Ae Ab Ak Aa) ?_;rintro v ⟨hvl,hv1⟩)))|(with_reducible refine Sl.kq_field ?_;(first|refine Cw (Fa rfl Aa) ?_|((refine IM (Ah Ab Ak Aa Aa rfl) ?_);rintro v hp;(try simp only [Int.toNat_natCast,Int.toNat_natCast_add_one,Int.reduceToNat] at hp))))|(with_reducible refine Sl.kq_call ?_;((refine I3 (fun w hst=>Na _ hst hG _ _ hp2 hp3) Aa rfl ?_))))<;>(try refine nY ?_)))
   refine Gv ?_;clear hst;intro w hst;refine EE (.inr ⟨_,rfl⟩) Rd rfl ?_;refine B9 (hpf _ hst _ Ak) Aa rfl ?_;clear hst;rintro v w ⟨rfl,hst⟩;(try refine nY ?_)
   cases vb with
   | false =>
    repeat' (first|with_reducible refine DX ?_|with_reducible refine Gf ?_|with_reducible refine JS ?_|with_reducible refine wpIn_seq ?_|with_reducible refine wpIn_ret ?_|with_reducible refine Fy ?_|with_reducible (refine FO Ab ?_)|(apply gK ();go_step)|(apply sT ();clear hst;intro w hst)|fail)
    refine .inr ⟨rfl,S4,.box b2 [.int .i64 ((CJ ev.2.1 [] ev.2.2.1:Nat):Int)] 31::M,hS3.trans hS4,rfl,?_⟩;rw [hck.out,hom];exact hst.drop
   | true =>
    repeat' (first|with_reducible refine DX ?_|with_reducible refine Gf ?_|with_reducible refine Wg ?_|with_reducible refine wpIn_skip ?_|with_reducible (refine LQ Ab ?_)|(apply gK ();go_step)|fail)
    refine .inl ⟨rfl,⟨_,Nk hkl,fun h=>hnew (Nj.1 h)⟩,S4,.box b2 [.int .i64 0] 31::M,hS3.trans hS4,⟨rfl,Lib.hid (hck.out.trans hom)⟩,?_⟩;exact hst.drop
 ·clear hst;rintro d S2 M2 w hS2 ⟨rfl,hck⟩ hst;have hck:=hck.out;rw [hlen,List.drop_length] at hck;simp only [List.cons_append,List.nil_append] at hst;repeat' (first|(apply gK ();go_step)|(apply sT ();clear hst;intro w hst)|fail)
  refine Im hst rfl (fun w' hst'=>AT hst' rfl _ BoxIn.h Aa rfl rfl) fun w' hst'=>⟨_,rfl,?_,St.weaken (hS1.trans hS2) hst'.drop.drop.drop⟩
  rw [hck];rfl
 ·clear hst;rintro d k S2 M2 w hk hS2 rfl hst;simp only [List.cons_append,List.nil_append] at hst;repeat' (first|(apply gK ();go_step)|fail)
  exact Im hst rfl (fun w' hst'=>AT hst' rfl _ BoxIn.h Aa rfl rfl) fun w' hst'=>⟨_,rfl,rfl,St.weaken (hS1.trans hS2) hst'.drop.drop.drop⟩
theorem XI {S M} (w:World) (hst:St S M w) (hG:Bo S) (cs:List Value) (ev:Ev) (hR:Rep.R S cs ev) (hm:ev.2.2.1.length≤1000) :
  Ad Tryz.prog 43 [.agg cs.toArray] w fun u w'=>St S (.sl u 23 16 (GO ev).length (cF Eo (GO ev))::M) w':=by
 unfold Ad;go_enter Tryz.func43,Tryz.ntmps43;repeat' ((apply Z1 ());first|(apply gK ();go_step)|(apply sC ();clear hst;intro bx w hst)|fail)
 have hst0:=hst;clear hst;obtain ⟨S1,hS1,hst,hpe⟩:=AC (α:=Ev) hst0 hR (Rep.len hR);clear hst0;generalize Value.pointer (some ⟨bx,0,none⟩)=pE at *;replace hG:=hG.mono hS1;repeat' (first|(apply gK ();go_step)|(with_reducible refine kL ?_;refine An hst (Ae Ab Ak Aa) ?_;rintro v ⟨hvl,hv1⟩<;>(try refine nY ?_))|apply sY ()|(apply sJ ();intro v hp)|fail)
 have hst:=hst.nil 23 16
 go_loopw [3,9] (fun u v wr=>∃ (n:Nat) (c:List Dg),n≤ev.2.2.1.length∧v=.int .i64 n∧Hid (c=(List.range n).map fun (j:Nat)=>BK (j:Int) (ev.2.2.1.getD j 0))∧(n≤c.length∧c.length≤n)∧u.oneCell'=true∧St S1 (.sl u 23 16 c.length (cF Eo c)::M) wr) (fun _ v _=>ev.2.2.1.length - (intOf v).toNat)
 case atStart=>exact ⟨0,[],Nat.zero_le _,rfl,Lib.hid rfl,⟨Nat.le_refl _,Nat.le_refl _⟩,rfl,hst⟩
 case round =>
  clear hst;obtain ⟨n,c,hn,rfl,hc,hcl2,hone,hst⟩:=hrel;by_cases hlt:n < ev.2.2.1.length
  ·have hi64:=QT hvl ev.2.2.1[n] (List.getElem_mem hlt);have hn64:Au (n:Int):=by unfold Au;omega
   have hsu:=Lib.hid (Ql BK hlt);repeat' (first|(apply gK ();go_step)|(apply kc ();refine sc (Na _ hst hG (n:Int) ev.2.2.1[n] hn64 hi64) ?_;clear hst;rintro v w ⟨rfl,hst⟩)|(with_reducible refine kL ?_;refine An hst (Am Ab Ak Aa) ?_;rintro v ⟨rfl,hI⟩<;>(try refine nY ?_))|(apply sJ ();intro v hp)|fail)
   refine AA (vs:=[Cu (BK (n:Int) ev.2.2.1[n])]) hst Aa Aa rfl rfl (by simp [Value.cells,A8,GP]) rfl (by omega) (by omega) ?_;clear hst;intro u w hst;(try refine nY ?_);(try replace hst:=nH hst);refine AG (j:=0) hst Ab Ab SlIn.h rfl Aa Aa Aa (by simpa [Value.cells] using EO (BK (n:Int) ev.2.2.1[n]).l) (by omega) (by omega) (by decide) ?_;clear hst;intro v' w hst;(try refine nY ?_);(try replace hst:=nH hst);replace hst:=hst.drop;repeat' (first|(apply gK ();go_step)|fail)
   have hone':=AW hst;go_roundw
   case rel=>exact ⟨n+1,c++[BK (n:Int) ev.2.2.1[n]],by omega,by go_num,Lib.hid (by rw [hsu.out,hc.out]),by simp;omega,hone',by rw [List.length_append,I7];exact hst⟩
   case measure=>simp [intOf];omega
  ·obtain rfl:n=ev.2.2.1.length:=by omega
   have hcE:c=GO ev:=hc.out;repeat' (first|(apply gK ();go_step)|fail)
   go_ret;rw [← hcE];exact ⟨_,rfl,St.weaken hS1 hst⟩
theorem PC:∀ (hs:List Hd) (r:Rg),Er r→Er (hs.foldl Gm r)
 | [],_,h=>h
 | h::hs,r,_=>PC hs _ (Rs r h)
theorem KO (m:Dg) (hs:List Hd):Er (Dn m hs):=PC hs _ (Ij m)
theorem UF (m:Dg) (hs:List Hd) {k:Nat} (hk:k < hs.length):Dn m (hs.take (k+1))=Gm (Dn m (hs.take k)) hs[k]:=by
 rw [List.take_succ_eq_append_getElem hk,Dn,List.foldl_append];rfl
theorem Qj {S M} (w:World) (hst:St S M w) (hG:Bo S) (cs:List Value) (ev:Br) (hR:Rep.R S cs ev) (hm:ev.1.l.length=16) (hh:∀ h∈ev.2.1,Fo h) (hn:ev.2.1.length≤1048576) :
  Ad Tryz.prog 49 [.agg cs.toArray] w fun v w'=>v=K9 (Dn ev.1 ev.2.1)∧St S M w':=by
 unfold Ad;go_enter Tryz.func49,Tryz.ntmps49;repeat' ((apply Z1 ());first|(apply gK ();go_step)|(apply sC ();clear hst;intro bx w hst)|(apply sZ ();clear hst;intro bk w hst)|fail)
 have hst0:=hst.perm (List.Perm.swap _ _ _);clear hst;obtain ⟨S1,hS1,hst,hpe⟩:=AC (α:=Br) hst0 hR (Rep.len hR);clear hst0;generalize Value.pointer (some ⟨bx,0,none⟩)=pE at *;replace hG:=hG.mono hS1
 haveI:LenIs ev.1.l 16:=⟨hm⟩
 repeat' (first|(apply gK ();go_step)|(apply kc ();refine sc (QN _ hst hG ev.1 hm) ?_;clear hst;rintro v w ⟨rfl,hst⟩)|apply sP ()|(apply sJ ();intro v hp)|(apply sZ ();clear hst;intro bk w hst)|fail)
 refine CN hst rfl BoxIn.h Aa (x0:=FU ev.1) (cs:=Fk (FU ev.1)) Ab (C1 (Ij ev.1)) rfl ?_;clear hst;intro w hst;(try refine nY ?_);(try replace hst:=nH hst);rename Nat=>b3
 repeat' (first|(apply gK ();go_step)|(with_reducible refine kL ?_;refine An hst (Ae Ab Ak Aa) ?_;rintro v ⟨hvl,hv1⟩<;>(try refine nY ?_))|apply sY ()|(apply sJ ();intro v hp)|fail)
 have hfs:∀ k,Er (Dn ev.1 (ev.2.1.take k)):=fun k=>KO _ _
 go_loopw [12] (fun v wr=>∃ k:Nat,k≤ev.2.1.length∧v=.int .i64 k∧St S1 (.box b3 (Fk (Dn ev.1 (ev.2.1.take k))) 50::.box bk (Fk f8) 50::M) wr) (fun v _=>ev.2.1.length - (intOf v).toNat)
 case atStart=>exact ⟨0,Nat.zero_le _,rfl,hst⟩
 case round =>
  clear hst;obtain ⟨k,hk,rfl,hst⟩:=hrel;by_cases hlt:k < ev.2.1.length
  ·have hho:=hh _ (List.getElem_mem hlt);have hfk:=hfs k;have hfk1:=hfs (k+1);have hsu:=Lib.hid (UF ev.1 ev.2.1 hlt);rw [hsu.out] at hfk1;repeat' (first|(apply gK ();go_step)|apply sP ()|(apply sJ ();intro v hp)|(apply sZ ();clear hst;intro bk w hst)|fail)
   refine CN hst rfl BoxIn.h Aa (x0:=ev.2.1[k]) (cs:=F6 ev.2.1[k]) Ab (CS hho) rfl ?_;clear hst;intro w hst;(try refine nY ?_);(try replace hst:=nH hst);generalize Dn ev.1 (ev.2.1.take k)=F at *;generalize ev.2.1[k]=E at *;have hrF:Rep.R S1 (Fk F) F:=C1 hfk;have hrE:Rep.R S1 (F6 E) E:=CS hho;repeat' (first|(apply gK ();go_step)|(with_reducible refine kL ?_;with_unfolding_all refine Ag hst (by first|exact FC (x0:=F) rfl BoxIn.h hrF Aa|exact FC (x0:=E) rfl BoxIn.h hrE Aa) ?_<;>(try refine nY ?_))|(apply kc ();refine sc (PE _ hst hG F hfk E hho) ?_;clear hst;rintro v w ⟨rfl,hst⟩)|fail)
   refine CN hst rfl BoxIn.h Aa (x0:=Gm F E) (cs:=Fk (Gm F E)) Ab (C1 hfk1) (Rep.len hrF) ?_;clear hst;intro w hst;(try refine nY ?_);(try replace hst:=nH hst);repeat' (first|(apply gK ();go_step)|fail)
   go_roundw
   case rel=>exact ⟨k+1,by omega,by go_num,by rw [hsu.out];exact hst.drop⟩
   case measure=>simp [intOf];omega
  ·obtain rfl:k=ev.2.1.length:=by omega
   rw [List.take_length] at hst;have hfa:=KO ev.1 ev.2.1;have hrA:Rep.R S1 (Fk (Dn ev.1 ev.2.1)) (Dn ev.1 ev.2.1):=C1 hfa;repeat' (first|(apply gK ();go_step)|(with_reducible refine kL ?_;with_unfolding_all refine Ag hst (FC (x0:=Dn ev.1 ev.2.1) rfl BoxIn.h hrA Aa) ?_<;>(try refine nY ?_))|fail)
   refine CN hst rfl BoxIn.h Aa (x0:=Dn ev.1 ev.2.1) (cs:=Fk (Dn ev.1 ev.2.1)) Ab hrA rfl ?_;clear hst;intro w hst;(try refine nY ?_);(try replace hst:=nH hst);repeat' (first|(apply gK ();go_step)|fail)
   exact Oq rfl hst rfl BoxIn.h Aa hrA ⟨_,rfl,rfl,St.weaken hS1 hst.drop.drop⟩
end Go.Proofs.YtmmbidoldegemaaGreatDoor
