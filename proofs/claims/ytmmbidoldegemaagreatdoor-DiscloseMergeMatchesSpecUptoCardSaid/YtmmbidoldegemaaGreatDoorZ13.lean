/- Part 14 of the proof that the law of the last part holds; no conditions. -/
import Derived.Test.YtmmbidoldegemaaGreatDoorZ12
set_option linter.unusedSimpArgs false
set_option linter.unusedVariables false
set_option maxRecDepth 8000
set_option maxHeartbeats 8000000
namespace Go.Proofs.YtmmbidoldegemaaGreatDoor
open Go.RowKit Go.Sl
theorem LD {P:Program} {T E T2:TypeId} {l:List Value} {x y:Operand} {S:Ac} {M:List Chunk} {a:Option Addr} {n c n' c':Nat} (hx:Ai l x=.slice a n c) (hy:Ai l y=.slice none n' c') (hT:SlT P T E) :
  Qt P l (.binOp .eql T x y T2) S M (.bool a.isNone):=fun dst ty pos af w hst=>by
 apply eW ()
theorem aP {S M} (w:World) (hst:St S M w) (v:Value) (xs:List UInt8) (hv:RSl S v xs) (hm:xs.length≤16777216) :
  Ad Tryz.prog 138 [v] w fun u w'=>St S (.sl u 5 1 xs.length (u8s xs)::M) w':=by
 unfold Ad;have hv':=hv;rcases hv with ⟨ad,cap,rfl,rfl,_⟩|⟨b,o,cap,c,T,fz,rfl,_,_,_,_⟩
 ·cases ad with
  | none =>
   go_enter Tryz.func138,Tryz.ntmps138;repeat' (first|(with_reducible refine kB ?_;refine Ag hst (LD rfl rfl (by infer_instance)) ?_;simp only [Option.isNone_none,Option.isNone_some];(try refine nY ?_))|(apply gK ();go_step)|fail)
   go_ret;exact ⟨_,rfl,hst.nil _ 1⟩
  | some a =>
   go_enter Tryz.func138,Tryz.ntmps138;repeat' (first|(with_reducible refine kB ?_;refine Ag hst (LD rfl rfl (by infer_instance)) ?_;simp only [Option.isNone_none,Option.isNone_some];(try refine nY ?_))|(apply gK ();go_step)|fail)
   apply im ()
 ·go_enter Tryz.func138,Tryz.ntmps138;repeat' (first|(with_reducible refine kB ?_;refine Ag hst (LD rfl rfl (by infer_instance)) ?_;simp only [Option.isNone_none,Option.isNone_some];(try refine nY ?_))|(apply gK ();go_step)|fail)
  apply im ()
structure Bo (S:Ac):Prop where
 start:Pt S (.pointer (some ⟨0,0,none⟩)) (⟨FH.l⟩:Ge UInt32 8)
 cons:Pt S (.pointer (some ⟨1,0,none⟩)) (⟨He⟩:Ge UInt32 64)
theorem Bo.mono {S S':Ac} (hS:S.Le S') (h:Bo S):Bo S':=⟨h.start.mono hS,h.cons.mono hS⟩
instance jN {n:Nat}:FlatC (Ge UInt8 n) (fun a=>u8s a.l):=⟨fun {S cs x} h=>h.2.eq_u8s⟩
theorem Ue {v:Value} {S:Ac} {M:List Chunk} {w:World} {T:TypeId} {z n:Nat} {c:List Value} (h:St S (.sl v T z n c::M) w):(∃ a k,v=.slice a n k):=by
 rcases (h.get (k:=0) rfl).2 with ⟨rfl,rfl⟩|⟨g,cap,cur,fz,rfl,_⟩<;>exact ⟨_,_,rfl⟩
def lenOf:Value→Nat
 | .slice _ n _=>n
 | _=>0
theorem OI {v:Value} {S:Ac} {M:List Chunk} {w:World} {T:TypeId} {z n:Nat} {c:List Value} (h:St S (.sl v T z n c::M) w):lenOf v=n:=by
 obtain ⟨a,k,rfl⟩:=Ue h;rfl
set_option maxRecDepth 100000 in
theorem ft {S M} (w:World) (hst:St S M w) (hG:Bo S) (vb:Value) (b:List UInt8) (hb:RSl S vb b) (hm:b.length≤8000000) :
  Ad Tryz.prog 122 [vb] w fun v w'=>v=.agg (u8s (Ib b)).toArray∧St S M w':=by
 refine FZ Tryz.func122 rfl ?_;simp only [Tryz.ntmps122,List.size_toArray,List.length_cons,List.length_nil,Nat.reduceAdd,Nat.reduceSub,Array.replicate_succ,Array.replicate_zero,List.push_toArray,List.append_toArray,List.nil_append,List.cons_append];have hpz:IOa b.length < 64:=Nat.mod_lt _ (by decide);repeat' (first|(apply gK ();go_step)|(apply kc ();refine sc (aP _ hst vb b hb (by omega)) ?_;clear hst;rintro v w hst)|(apply sZ ();clear hst;intro bk w hst)|fail)
 rename Nat=>b2
 refine AA (vs:=[.int .u8 128]) hst Aa Aa rfl rfl (by simp [Value.cells]) rfl (by omega) (by omega) ?_;clear hst;intro u w hst;refine nY ?_;refine AG (j:=0) hst Ab Ab SlIn.h rfl Aa Aa Aa (by simp [Value.cells,Value.oneCell']) (by omega) (by omega) (by decide) ?_;clear hst;intro v' w hst;refine nY ?_;(try replace hst:=nH hst);replace hst:=hst.drop;repeat' (first|(apply gK ();go_step)|fail)
 have hone:=AW hst
 have hst:St S (.sl v' 5 1 (b++[128]).length (u8s (b++[128]))::.box b2 (u8s (List.replicate 32 0)) 199::M) w:=by
  rw [List.length_append,Hw];exact hst
 go_loopw [3] (fun v wr=>∃ (j:Nat) (c:List UInt8),j≤IOa b.length∧Hid (c=b++[128]++List.replicate j 0)∧(b.length+1+j≤c.length∧c.length≤b.length+1+j)∧v.oneCell'=true∧lenOf v=c.length∧St S (.sl v 5 1 c.length (u8s c)::.box b2 (u8s (List.replicate 32 0)) 199::M) wr) (fun v _=>b.length+65 - lenOf v)
 case atStart=>exact ⟨0,_,by omega,Lib.hid (by simp),by simp,hone,OI hst,hst⟩
 case round =>
  clear hst;obtain ⟨j,c,hj,hc,hcl,hone,hlo,hst⟩:=hrel;have Hlo:=Lib.hid hlo;clear hlo
  have hmod:((c.length:Int) % 64=56→IOa b.length≤j)∧(IOa b.length≤j→(c.length:Int) % 64=56):=by
   unfold IOa at hj ⊢;omega
  by_cases hlt:j < IOa b.length
  ·have h56:((c.length:Int) % 64 == 56)=false:=beq_eq_false_iff_ne.2 (by omega);have h56':((c.length:Int) % 64 != 56)=true:=bne_iff_ne.2 (by omega);clear hmod;repeat' (first|(apply gK ();go_step)|apply sY ()|fail)
   refine AA (vs:=[.int .u8 0]) hst Aa Aa rfl rfl (by simp [Value.cells]) rfl (by omega) (by omega) ?_;clear hst;intro u w hst;refine nY ?_;refine AG (j:=0) hst Ab Ab SlIn.h rfl Aa Aa Aa (by simp [Value.cells,Value.oneCell']) (by omega) (by omega) (by decide) ?_;clear hst;intro v' w hst;refine nY ?_;(try replace hst:=nH hst);replace hst:=hst.drop;repeat' (first|(apply gK ();go_step)|fail)
   have hone':=AW hst;have hlo':=OI hst;go_roundw
   case rel=>exact ⟨j+1,c++[0],by omega,Lib.hid (by rw [hc.out,List.append_assoc,List.append_assoc,List.append_assoc,← List.replicate_succ']),by simp;omega,hone',by simpa using hlo',by rw [List.length_append,Hw];exact hst⟩
   case measure =>
    have h1:=Hlo.out;have h2:lenOf v'=c.length+1:=by simpa using hlo'
    show b.length+65 - lenOf v' < b.length+65 - lenOf _;rw [h2];omega
  ·have h56':((c.length:Int) % 64 != 56)=false:=bne_eq_false_iff_eq.2 (by omega);clear hmod;obtain rfl:j=IOa b.length:=by omega
   repeat' (first|(apply gK ();go_step)|(apply kc ();refine sc (QM _ _ c 16000000 hst (8 * b.length) 8 (by omega) (by omega) (by omega) (by omega)) ?_;clear hst;rintro v w hst)|apply sY ()|fail)
   have hpad:c++be (8 * b.length) 8=Fl b:=by rw [hc.out];rfl
   rw [hpad] at hst;obtain ⟨S1,hS1,hst,hpv⟩:=Mu (Fl b) hst rfl rfl;have hone1:=hpv.oneCell;have hG1:=hG.mono hS1;have hG2:=hG1.start;repeat' (first|apply sP ()|(apply sZ ();clear hst;intro bk w hst)|fail)
   refine AB hst rfl _ BoxIn.h Aa (cs:=Il FH) Ab rfl rfl rfl (by simp) ?_;clear hst;intro w hst;rename Nat=>b5
   have hst:St S1 (.box b5 [.nilFunc] 221::.box bk (Il FH) 220::.box b2 (u8s (List.replicate 32 0)) 199::M) w:=hst;repeat' (first|(apply gK ();go_step)|(apply kc ();refine sc (aQ _ hst v (Fl b) hpv) ?_;clear hst;rintro v w ⟨S2,ps,pn,hS2,rfl,hps,hpn,hst⟩)|(apply sT ();clear hst;intro w hst)|fail)
   have hG3:=hG1.mono hS2;have hG4:=hG3.cons;have hlen:(Fl b).length=64 * ((Fl b).length / 64):=by have:=ZK b;omega
   have hpl:(Fl b).length≤16777216:=by rw [Q3];omega
   refine WQ (I:=fun k=>[.box b5 [.func (.func 140) #[] #[]] 221,.box bk (Il (Ig (Fl b) k)) 220]) (M0:=.box b2 (u8s (List.replicate 32 0)) 199::M) hst rfl Aa (Yr (Fl b) ((Fl b).length / 64) hlen hpl ps pn hps hpn) ?_ (by simp) ?_ ?_
   ·rintro k vs ⟨v,rfl,_⟩;rfl
   ·clear hst;rintro r k v C w hk ⟨_,hv,hvc⟩ hst;obtain rfl:=(List.cons.inj hv).1;simp only [List.cons_append,List.nil_append] at hst;refine nY ?_;refine wpIn_block (E7 (.inr ⟨r,rfl⟩) ?_ rfl ?_)
    ·rintro ⟨a,w,h,_⟩;cases h
    ·have hcl:(KW (Fl b) k).length=64:=by rw [KW,List.length_take,List.length_drop];omega
     repeat' (first|(apply gK ();go_step)|(with_reducible refine kC ?_;refine DU (Td _ hst hG4 (Ig (Fl b) k) _ (KW (Fl b) k) hvc hcl) rfl Aa rfl rfl ?_;clear hst;rintro v w ⟨rfl,hst⟩<;>(try refine nY ?_)<;>(try replace hst:=nH hst))|(with_reducible refine kL ?_;refine Ag hst (by first|exact Bl Ab BoxIn.h Aa E5|exact AM rfl _ BoxIn.h Aa rfl rfl) ?_<;>(try refine nY ?_))|(apply sT ();clear hst;intro w hst)|fail)
     exact ⟨trivial,hst⟩
   ·clear hst;intro d w hst;have hst:St S2 (.obj d (.deferred (some []))::.box b5 [.func (.func 140) #[] #[]] 221::.box bk (cF Cs (Ig (Fl b) ((Fl b).length / 64)).l) 220::.box b2 (u8s (List.replicate 32 0)) 199::M) w:=hst;obtain ⟨s8,hs8⟩:∃ s8,Ig (Fl b) ((Fl b).length / 64)=s8:=⟨_,rfl⟩
    rw [hs8] at hst;have H8:Hid (Ib b=O3 s8):=Lib.hid (by rw [Ib,hs8]);clear hs8;repeat' (first|(apply gK ();go_step)|(with_reducible refine kL ?_;refine Ag hst (by exact Bl Ab BoxIn.h Aa E5) ?_<;>(try refine nY ?_))|fail)
    go_loopw [7,36] (fun vo v wr=>∃ (i:Nat) (c:List UInt8),i≤8∧v=.int .i64 i∧Hid (c=(s8.l.take i).flatMap fun x=>be x.toNat 4)∧c.length≤4 * i∧vo.oneCell'=true∧St S2 (.sl vo 5 1 c.length (u8s c)::.obj d (.deferred (some []))::.box b5 [.func (.func 140) #[] #[]] 221::.box bk (cF Cs s8.l) 220::.box b2 (u8s (List.replicate 32 0)) 199::M) wr) (fun _ v _=>8 - (intOf v).toNat)
    case atStart=>exact ⟨0,[],by omega,rfl,Lib.hid rfl,by simp,rfl,hst.nil _ 1⟩
    case round =>
     clear hst;obtain ⟨i,c,hi,rfl,hc,hcl,hone,hst⟩:=hrel;by_cases hlt:i < 8
     ·have hll:i < s8.l.length:=hlt;have h32:=(s8.l.getD i 0).toNat_lt;repeat' (first|(with_reducible refine kV ?_;refine Ag hst (by exact Qk rfl Aa Aa) ?_<;>(try refine nY ?_))|(with_reducible refine kX ?_;refine Ag hst (by exact NV Ab rfl Aa Aa Af Af Af) ?_<;>(try refine nY ?_))|(apply gK ();go_step)|(apply kc ();refine sc (QM _ _ c 32 hst (s8.l.getD i 0).toNat 4 (by omega) (by omega) (by omega) (by omega)) ?_;clear hst;rintro v w hst)|fail)
      have hone':=AW hst;go_roundw
      case rel=>exact ⟨i+1,_,by omega,by go_num,Lib.hid (by rw [hc.out,List.take_succ_eq_append_getElem hll,List.flatMap_append,List.flatMap_cons,List.flatMap_nil,List.append_nil,List.getD_eq_getElem?_getD,List.getElem?_eq_getElem hll];rfl),by rw [List.length_append,MN];omega,hone',hst⟩
      case measure=>simp [intOf];omega
     ·obtain rfl:i=8:=by omega
      have hout:c=Ib b:=by rw [hc.out,H8.out];rfl
      rw [hout] at hst;obtain ⟨S3,hS3,hst,hov⟩:=Mu (Ib b) hst rfl rfl;have hov1:=hov.oneCell;have hhl:=LI b;repeat' (first|(apply gK ();go_step)|fail)
      refine An hst (Mi Ab hov Aa hhl (by decide)) ?_;rintro p hp;refine nY ?_;repeat' (first|apply sP ()|fail)
      refine AB hst rfl _ BoxIn.h Aa (cs:=u8s (Ib b)) Ab rfl (by rw [A8,hhl]) (List.all_eq_true.2 (EO _)) (by simp [u8s]) ?_;clear hst;intro w hst
      have hst:St S3 (.obj d (.deferred (some []))::.box b5 [.func (.func 140) #[] #[]] 221::.box bk (cF Cs s8.l) 220::.box b2 (u8s (Ib b)) 199::M) w:=by
       simpa [u8s] using hst
      repeat' (first|(apply gK ();go_step)|fail)
      refine Im hst rfl (fun w' hst'=>AT (cs:=u8s (Ib b)) hst' rfl 2 rfl Aa ?_ (by rw [A8,hhl])) fun w' hst'=>⟨_,rfl,rfl,St.weaken ((hS1.trans hS2).trans hS3) hst'.drop.drop.drop⟩
      rw [List.drop_zero,List.take_of_length_le (by rw [A8,hhl];exact Nat.le_refl _)]
def EW (parts:List (List UInt8)):List UInt8:=parts.flatMap Kv
def Dq (tag:Int) (parts:List (List UInt8)):List UInt8:=(Ib (UInt8.ofNat tag.toNat::EW parts)).take 16
theorem Ch (tag:Int) (parts:List (List UInt8)):(Dq tag parts).length=16:=by rw [Dq,List.length_take,LI];rfl
def CF (parts:List (List UInt8)):Nat:=(parts.map List.length).sum+10 * parts.length
theorem N8 (parts:List (List UInt8)):(EW parts).length≤CF parts:=by
 induction parts with
 | nil=>simp [EW,CF]
 | cons p r ih =>
  have:=C8 p.length;simp only [EW,CF,List.flatMap_cons,List.length_append,List.map_cons,List.sum_cons,List.length_cons,Kv] at ih ⊢;omega
theorem R3 (parts:List (List UInt8)) (i:Nat):CF (parts.take i)≤CF parts:=by
 induction parts generalizing i with
 | nil=>simp [CF]
 | cons p r ih =>
  cases i with
  | zero=>simp [CF]
  | succ i =>
   have:=ih i;simp only [List.take_succ_cons,CF,List.map_cons,List.sum_cons,List.length_cons] at this ⊢;omega
theorem Uf {parts:List (List UInt8)} {p:List UInt8} (h:p∈parts):p.length≤CF parts:=by
 induction parts with
 | nil=>cases h
 | cons q r ih =>
  simp only [CF,List.map_cons,List.sum_cons,List.length_cons] at ih ⊢;rcases List.mem_cons.1 h with rfl|h
  ·omega
  ·have:=ih h;omega
theorem dR {S M} (w:World) (vb:Value) (b:List UInt8) (hst:St S (.sl vb 5 1 b.length (u8s b)::M) w) (vp:Value) (parts:List (List UInt8)) (hp:RSl S vp parts) (hb:b.length≤1000) (hs:CF parts≤1048576) :
  Ad Tryz.prog 123 [vb,vp] w fun v w'=>St S (.sl v 5 1 (b++EW parts).length (u8s (b++EW parts))::M) w':=by
 unfold Ad;have h1:=AW hst;have hpn:parts.length≤1048576:=by unfold CF at hs;omega
 go_enter Tryz.func123,Tryz.ntmps123;repeat' (first|(apply gK ();go_step)|apply sY ()|fail)
 go_loopw [0,9] (fun u v wr=>∃ (i:Nat) (c:List UInt8),i≤parts.length∧v=.int .i64 i∧Hid (c=b++EW (parts.take i))∧c.length≤b.length+CF parts∧u.oneCell'=true∧St S (.sl u 5 1 c.length (u8s c)::M) wr) (fun _ v _=>parts.length - (intOf v).toNat)
 case atStart=>exact ⟨0,b,Nat.zero_le _,rfl,Lib.hid (by simp [EW]),by omega,h1,hst⟩
 case round =>
  clear hst;obtain ⟨i,c,hi,rfl,hc,hcl,hone,hst⟩:=hrel;by_cases hlt:i < parts.length
  ·have hpl:=Uf (List.getElem_mem hlt)
   have hcn:(c++Kv parts[i]).length≤b.length+CF parts:=by
    have h1:=N8 (parts.take (i+1));have h2:=R3 parts (i+1)
    have e:c++Kv parts[i]=b++EW (parts.take (i+1)):=by
     rw [hc.out,List.take_succ_eq_append_getElem hlt,EW,EW,List.flatMap_append,List.append_assoc];simp
    rw [e,List.length_append];omega
   rw [List.length_append] at hcn;repeat' (first|(with_reducible refine kV ?_;refine Ur hst Ab Ak Aa Aa Aa ?_<;>(try refine nY ?_))|(apply gK ();go_step)|(apply kc ();refine sc (aY _ hst parts[i] (by omega)) ?_;clear hst;rintro v w hst)|(with_reducible refine kL ?_;refine An hst (Ae Ab Ak Aa) ?_;rintro v ⟨hvl,hv1⟩<;>(try refine nY ?_))|(apply sJ ();intro v hp)|fail)
   refine AG (j:=0) hst Ab Ab SlIn.h rfl Aa Aa Aa (EO _) (by omega) (by omega) (by decide) ?_;clear hst;intro v' w hst;(try refine nY ?_);(try replace hst:=nH hst);replace hst:=hst.drop;repeat' (first|(apply gK ();go_step)|fail)
   have hone':=AW hst;go_roundw
   case rel =>
    refine ⟨i+1,c++Kv parts[i],by omega,by go_num,Lib.hid ?_,by rw [List.length_append];exact hcn,hone',?_⟩
    ·rw [hc.out,List.take_succ_eq_append_getElem hlt,EW,EW,List.flatMap_append,List.append_assoc];simp
    ·rw [Jh,List.length_append];exact hst
   case measure=>simp [intOf];omega
  ·repeat' (first|(apply gK ();go_step)|fail)
   go_ret;refine ⟨_,rfl,?_⟩;rw [List.take_of_length_le (l:=parts) (i:=i) (by omega)] at hc;rw [← hc.out];exact hst
theorem Zk {S M} (w:World) (hst:St S M w) (h:List UInt8) (hl:h.length=32) :
  Ad Tryz.prog 121 [.agg (u8s h).toArray] w fun v w'=>v=.agg (u8s (h.take 16)).toArray∧St S M w':=by
 unfold Ad;go_enter Tryz.func121,Tryz.ntmps121;repeat' (first|(apply gK ();go_step)|(apply sC ();clear hst;intro bx w hst)|(apply sZ ();clear hst;intro bk w hst)|fail)
 obtain ⟨S1,hS1,hst,hph⟩:=AC (α:=Ge UInt8 32) (x:=⟨h⟩) hst.swap (by exact ⟨hl,KL h⟩) (by rw [A8,hl];rfl);refine An hst (Fb (a:=0) (b:=16) Ab hph Aa Aa (.inl ⟨rfl,rfl⟩) (.inr ⟨.i64,rfl⟩) (by omega) (by omega) (by unfold maxLen;omega)) ?_;rintro v hv;refine nY ?_;have hvl:((h.drop 0).take (16 - 0)).length=16:=by rw [List.length_take,List.length_drop];omega
 refine An hst (Mi Ab hv Aa hvl (by decide)) ?_;rintro p hp;refine nY ?_;repeat' (first|apply sP ()|fail)
 refine AB hst rfl _ BoxIn.h Aa (cs:=u8s (h.take 16)) Ab rfl (by rw [A8];exact hvl) (List.all_eq_true.2 (EO _)) (by simp) ?_;clear hst;intro w hst
 have hst:St S1 (.box bk (u8s (h.take 16)) 23::M) w:=by
  simpa [u8s] using hst
 repeat' (first|(apply gK ();go_step)|fail)
 refine Ca rfl hst rfl 0 rfl Aa (cs:=u8s (h.take 16)) ?_ (by rw [A8];exact hvl) ⟨_,rfl,rfl,St.weaken hS1 hst.drop⟩;rw [List.drop_zero,List.take_of_length_le (by rw [A8];exact Nat.le_of_eq hvl)]
theorem EG {S M} (w:World) (hst:St S M w) (hG:Bo S) (tag:Int) (h0:0≤tag∧tag≤255) (vp:Value) (parts:List (List UInt8)) (hp:RSl S vp parts) (hs:CF parts≤1048576) :
  Ad Tryz.prog 73 [.int .i64 tag,vp] w fun v w'=>v=.agg (u8s (Dq tag parts)).toArray∧St S M w':=by
 unfold Ad;obtain ⟨t,rfl⟩:∃ t:Nat,tag=t:=⟨tag.toNat,by omega⟩
 have ht:[Value.int .u8 (t:Int)]=u8s [UInt8.ofNat t]:=by
  simp only [u8s,List.map_cons,List.map_nil,UInt8.toNat_ofNat']
  congr 2
  omega
 go_enter Tryz.func73,Tryz.ntmps73;repeat' (first|(apply gK ();go_step)|(apply sZ ();clear hst;intro bk w hst)|fail)
 refine AA (vs:=[.int .u8 (t:Int)]) hst Aa Aa rfl rfl (by simp [Value.cells]) rfl (by omega) (by omega) ?_;clear hst;intro x w hst;have hst:St S (.sl x 5 1 [UInt8.ofNat t].length (u8s [UInt8.ofNat t])::.box bk (u8s (List.replicate 16 0)) 23::M) w:=by rw [← ht];exact hst
 refine nY ?_;have hjl:=N8 parts;repeat' (first|(apply gK ();go_step)|(apply kc ();refine sc (dR _ _ [UInt8.ofNat t] hst vp parts hp (by simp) hs) ?_;clear hst;rintro v w hst)|fail)
 obtain ⟨S1,hS1,hst,hv⟩:=Mu _ hst rfl rfl;repeat' (first|(apply kc ();refine sc (ft _ hst (hG.mono hS1) _ _ hv (by simp;omega)) ?_;clear hst;rintro v w ⟨rfl,hst⟩)|(apply kc ();refine sc (Zk _ hst _ (LI _)) ?_;clear hst;rintro v w ⟨rfl,hst⟩)|fail)
 have hdl:(Dq (t:Int) parts).length=16:=Ch _ _;refine AB hst rfl _ BoxIn.h Aa (cs:=u8s (Dq (t:Int) parts)) Ab rfl (by rw [A8,hdl]) (List.all_eq_true.2 (EO _)) (by simp [u8s]) ?_;clear hst;intro w hst
 have hst:St S1 (.box bk (u8s (Dq (t:Int) parts)) 23::M) w:=by
  simpa [u8s] using hst
 repeat' (first|(apply gK ();go_step)|fail)
 refine Ca rfl hst rfl 0 rfl Aa (cs:=u8s (Dq (t:Int) parts)) ?_ (by rw [A8,hdl]) ⟨_,rfl,rfl,St.weaken hS1 hst.drop⟩;rw [List.drop_zero,List.take_of_length_le (by rw [A8,hdl];exact Nat.le_refl _)]
def D3:Nat→Nat→Nat→Nat
 | 0,_,k=>k
 | f+1,n,k=>if 2 * k < n then D3 f n (2 * k) else k
def At (n:Nat):Nat:=D3 n n 1
theorem K5:∀ (f n k:Nat),1≤k→k < n→1≤D3 f n k∧D3 f n k < n
 | 0,n,k,h1,h2=>⟨h1,h2⟩
 | f+1,n,k,h1,h2=>by
  unfold D3;split
  ·exact K5 f n (2 * k) (by omega) (by omega)
  ·exact ⟨h1,h2⟩
theorem Cd {n:Nat} (h:2≤n):1≤At n∧At n < n:=K5 n n 1 (by omega) (by omega)
theorem Fp {f n k:Nat} (h:¬ 2 * k < n):D3 f n k=k:=by cases f<;>simp [D3,h]
theorem Ub:∀ (f n k:Nat),2 * k < n→n≤f+k→D3 f n k=D3 (f - 1) n (2 * k)
 | 0,n,k,h1,h2=>by omega
 | f+1,n,k,h1,h2=>by rw [D3,if_pos h1];rfl
theorem K6:∀ (f g n k:Nat),1≤k→n≤f+k→n≤g+k→D3 f n k=D3 g n k
 | 0,g,n,k,h0,h1,h2=>by rw [Fp (by omega),Fp (by omega)]
 | f+1,0,n,k,h0,h1,h2=>by rw [Fp (by omega),Fp (by omega)]
 | f+1,g+1,n,k,h0,h1,h2=>by
  unfold D3;split
  ·exact K6 f g n (2 * k) (by omega) (by omega) (by omega)
  ·rfl
def Dk (d:Dg):Dg:=⟨Dq 1 [d.l]⟩
def FA (a b:Dg):Dg:=⟨Dq 2 [a.l,b.l]⟩
def PK:Dg:=⟨Dq 1 []⟩
def FY:Nat→List Dg→Dg
 | _,[]=>PK
 | _,[d]=>Dk d
 | 0,_=>PK
 | f+1,l=>FA (FY f (l.take (At l.length))) (FY f (l.drop (At l.length)))
def B0 (l:List Dg):Dg:=FY l.length l
theorem G5:∀ (f g:Nat) (l:List Dg),l.length≤f→l.length≤g→FY f l=FY g l
 | f,g,[],_,_=>by cases f<;>cases g<;>rfl
 | f,g,[d],_,_=>by cases f<;>cases g<;>rfl
 | 0,g,a::b::r,h,_=>by simp at h
 | f+1,0,a::b::r,_,h=>by simp at h
 | f+1,g+1,a::b::r,h1,h2=>by
  have hs:=Cd (n:=(a::b::r).length) (by simp);have e1:((a::b::r).take (At (a::b::r).length)).length≤f:=by rw [List.length_take];omega
  have e2:((a::b::r).drop (At (a::b::r).length)).length≤f:=by rw [List.length_drop];omega
  have e3:((a::b::r).take (At (a::b::r).length)).length≤g:=by rw [List.length_take];omega
  have e4:((a::b::r).drop (At (a::b::r).length)).length≤g:=by rw [List.length_drop];omega
  rw [FY,FY,G5 f g _ e1 e3,G5 f g _ e2 e4];all_goals simp
theorem NR {l:List Dg} (h:2≤l.length):B0 l=FA (B0 (l.take (At l.length))) (B0 (l.drop (At l.length))):=by
 have hs:=Cd h
 match l,h with
 | a::b::r,h =>
  have e1:((a::b::r).take (At (a::b::r).length)).length≤r.length+1:=by rw [List.length_take];simp at hs ⊢;omega
  have e2:((a::b::r).drop (At (a::b::r).length)).length≤r.length+1:=by rw [List.length_drop];simp at hs ⊢;omega
  show FY (r.length+1+1) (a::b::r)=_;rw [FY,B0,B0,G5 _ (r.length+1) _ (Nat.le_refl _) e1,G5 _ (r.length+1) _ (Nat.le_refl _) e2];all_goals simp
def CX:Nat→List Dg→Nat→List Dg
 | 0,_,_=>[]
 | f+1,l,i=>if l.length < 2 then [] else
  if i < At l.length then CX f (l.take (At l.length)) i++[B0 (l.drop (At l.length))]
  else CX f (l.drop (At l.length)) (i - At l.length)++[B0 (l.take (At l.length))]
def Be (l:List Dg) (i:Nat):List Dg:=CX l.length l i
theorem Gw:∀ (f g:Nat) (l:List Dg) (i:Nat),l.length≤f→l.length≤g→CX f l i=CX g l i
 | 0,0,l,i,_,_=>rfl
 | 0,g+1,l,i,h,_=>by rw [CX,CX,if_pos (by omega)]
 | f+1,0,l,i,_,h=>by rw [CX,CX,if_pos (by omega)]
 | f+1,g+1,l,i,h1,h2=>by
  unfold CX;by_cases h:l.length < 2
  ·rw [if_pos h,if_pos h]
  ·have hs:=Cd (n:=l.length) (by omega);have e1:(l.take (At l.length)).length≤f:=by rw [List.length_take];omega
   have e2:(l.drop (At l.length)).length≤f:=by rw [List.length_drop];omega
   have e3:(l.take (At l.length)).length≤g:=by rw [List.length_take];omega
   have e4:(l.drop (At l.length)).length≤g:=by rw [List.length_drop];omega
   rw [if_neg h,if_neg h,Gw f g _ i e1 e3,Gw f g _ _ e2 e4]
theorem Sj {l:List Dg} (h:l.length < 2) (i:Nat):Be l i=[]:=by
 unfold Be
 cases e:l.length with
 | zero=>rfl
 | succ n=>rw [CX,if_pos h]
theorem Lb {l:List Dg} {i:Nat} (h:2≤l.length) (hi:i < At l.length):Be l i=Be (l.take (At l.length)) i++[B0 (l.drop (At l.length))]:=by
 have hs:=Cd h;obtain ⟨n,hn⟩:∃ n,l.length=n+1:=⟨l.length - 1,by omega⟩
 have e1:(l.take (At l.length)).length≤n:=by rw [List.length_take];omega
 rw [Be,Be,Gw _ n _ _ (Nat.le_refl _) e1]
 conv=>lhs;rw [hn,CX]
 rw [if_neg (by omega),if_pos hi]
theorem Kd {l:List Dg} {i:Nat} (h:2≤l.length) (hi:¬ i < At l.length):Be l i=Be (l.drop (At l.length)) (i - At l.length)++[B0 (l.take (At l.length))]:=by
 have hs:=Cd h;obtain ⟨n,hn⟩:∃ n,l.length=n+1:=⟨l.length - 1,by omega⟩
 have e1:(l.drop (At l.length)).length≤n:=by rw [List.length_drop];omega
 rw [Be,Be,Gw _ n _ _ (Nat.le_refl _) e1]
 conv=>lhs;rw [hn,CX]
 rw [if_neg (by omega),if_neg hi]
def Db:Nat→Nat→Nat→List Bool
 | 0,_,_=>[]
 | f+1,n,i=>if n < 2 then [] else if i < At n then true::Db f (At n) i else false::Db f (n - At n) (i - At n)
def Cy (n i:Nat):List Bool:=Db n n i
theorem Gs:∀ (f g n i:Nat),n≤f→n≤g→Db f n i=Db g n i
 | 0,0,n,i,_,_=>rfl
 | 0,g+1,n,i,h,_=>by rw [Db,Db,if_pos (by omega)]
 | f+1,0,n,i,_,h=>by rw [Db,Db,if_pos (by omega)]
 | f+1,g+1,n,i,h1,h2=>by
  unfold Db;by_cases h:n < 2
  ·rw [if_pos h,if_pos h]
  ·have hs:=Cd (n:=n) (by omega);rw [if_neg h,if_neg h,Gs f g (At n) i (by omega) (by omega),Gs f g (n - At n) _ (by omega) (by omega)]
theorem R9 {n:Nat} (h:n < 2) (i:Nat):Cy n i=[]:=by
 unfold Cy
 cases n with
 | zero=>rfl
 | succ n=>rw [Db,if_pos h]
theorem K7 {n i:Nat} (h:2≤n) (hi:i < At n):Cy n i=true::Cy (At n) i:=by
 have hs:=Cd h;obtain ⟨m,rfl⟩:∃ m,n=m+1:=⟨n - 1,by omega⟩
 have e:Cy (m+1) i=true::Db m (At (m+1)) i:=by
  show Db (m+1) (m+1) i=_;rw [Db,if_neg (by omega),if_pos hi]
 rw [e,Cy,Gs m (At (m+1)) _ _ (by omega) (Nat.le_refl _)]
theorem J4 {n i:Nat} (h:2≤n) (hi:¬ i < At n):Cy n i=false::Cy (n - At n) (i - At n):=by
 have hs:=Cd h;obtain ⟨m,rfl⟩:∃ m,n=m+1:=⟨n - 1,by omega⟩
 have e:Cy (m+1) i=false::Db m (m+1 - At (m+1)) (i - At (m+1)):=by
  show Db (m+1) (m+1) i=_;rw [Db,if_neg (by omega),if_neg hi]
 rw [e,Cy,Gs m (m+1 - At (m+1)) _ _ (by omega) (Nat.le_refl _)]
def Hz (d:Dg) (x:Bool×Dg):Dg:=if x.1 then FA d x.2 else FA x.2 d
def IB (sides:List Bool) (leaf:Dg) (proof:List Dg):Dg:=(sides.reverse.zip proof).foldl Hz (Dk leaf)
def B7 (root:Dg) (n i:Nat) (leaf:Dg) (proof:List Dg):Bool:=decide (i < n) && (decide ((Cy n i).length=proof.length) && decide (IB (Cy n i) leaf proof=root))
theorem Oz {α β:Type}:∀ (a:List α) (b:List β) (x:α) (y:β),a.length=b.length→(a++[x]).zip (b++[y])=a.zip b++[(x,y)]
 | [],[],_,_,_=>rfl
 | _::a,_::b,x,y,h=>by simp [Oz a b x y (by simpa using h)]
theorem MB (sides:List Bool) (b:Bool) (leaf:Dg) (proof:List Dg) (s:Dg) (h:sides.length=proof.length):IB (b::sides) leaf (proof++[s])=Hz (IB sides leaf proof) (b,s):=by
 rw [IB,List.reverse_cons,Oz _ _ _ _ (by simpa using h),List.foldl_append];rfl
theorem LN:∀ (m:Nat) (l:List Dg) (n i:Nat),l.length=n→n≤m→(hi:i < l.length)→(Cy n i).length=(Be l i).length∧IB (Cy n i) l[i] (Be l i)=B0 l
 | 0,l,n,i,e,h,hi=>by omega
 | m+1,l,n,i,e,h,hi=>by
  subst e;by_cases h2:l.length < 2
  ·have h1:l.length=1:=by omega
   obtain ⟨d,rfl⟩:=List.length_eq_one_iff.1 h1;obtain rfl:i=0:=by simpa using hi
   exact ⟨rfl,rfl⟩
  ·have h2:2≤l.length:=by omega
   have hs:=Cd h2;rw [NR h2];by_cases hk:i < At l.length
   ·have hl:(l.take (At l.length)).length=At l.length:=by rw [List.length_take];omega
    have ih:=LN m (l.take (At l.length)) (At l.length) i hl (by omega) (by omega);rw [K7 h2 hk,Lb h2 hk];refine ⟨by simp [ih.1],?_⟩;rw [MB _ _ _ _ _ ih.1,← ih.2,List.getElem_take];rfl
   ·have hl:(l.drop (At l.length)).length=l.length - At l.length:=by rw [List.length_drop]
    have ih:=LN m (l.drop (At l.length)) (l.length - At l.length) (i - At l.length) hl (by omega) (by omega);rw [J4 h2 hk,Kd h2 hk];refine ⟨by simp [ih.1],?_⟩;rw [MB _ _ _ _ _ ih.1,← ih.2,List.getElem_drop];simp only [show At l.length+(i - At l.length)=i by omega];rfl
theorem L0 {l:List Dg} {i:Nat} (hi:i < l.length):B7 (B0 l) l.length i l[i] (Be l i)=true:=by
 have:=LN l.length l l.length i rfl (Nat.le_refl _) hi;simp [B7,hi,this.1,this.2]
end Go.Proofs.YtmmbidoldegemaaGreatDoor
