/- Part 13 of a proof; no conditions. -/
import Derived.Test.YtmmbidoldegemaaGreatDoorZ11
set_option linter.all false
set_option maxRecDepth 8000
set_option maxHeartbeats 8000000
namespace Go.Proofs.YtmmbidoldegemaaGreatDoor
open Go.RowKit Go.Sl Go.Proofs.Tryz
theorem Mu {P T E T2 l x y S M a n c n' c'} (hx:Ai l x=.slice a n c) (hy:Ai l y=.slice none n' c') (hT:SlT P T E):
  Qt P l (.binOp .eql T x y T2) S M (.bool a.isNone):=fun dst ty pos af w V=>by
 apply gU ()
theorem dP {S M} (w) (V:St S M w) (v xs) (hv:RSl S v xs) (hm:xs.length≤16777216):
  Ac prog 138 [v] w fun u w'=>St S (.sl u 5 1 xs.length (u8s xs)::M) w':=by
 unfold Ac;have hv':=hv;rcases hv with ⟨ad,cap,rfl,rfl,_⟩|⟨b,o,cap,c,T,fz,rfl,_,_,_,_⟩
 ·cases ad with
  | none =>
   go_enter func138,ntmps138;repeat' (first|(apply tB ();refine Ag V (Mu rfl rfl (by infer_instance)) ?_;simp only [Option.isNone_none,Option.isNone_some];apply nZ ())|(apply O ();go_step)|fail)
   go_ret;exact ⟨_,rfl,V.nil _ 1⟩
  | some a =>
   go_enter func138,ntmps138;repeat' (first|(apply tB ();refine Ag V (Mu rfl rfl (by infer_instance)) ?_;simp only [Option.isNone_none,Option.isNone_some];apply nZ ())|(apply O ();go_step)|fail)
   apply j7 ()
 ·go_enter func138,ntmps138;repeat' (first|(apply tB ();refine Ag V (Mu rfl rfl (by infer_instance)) ?_;simp only [Option.isNone_none,Option.isNone_some];apply nZ ())|(apply O ();go_step)|fail)
  apply j7 ()
structure Bu (S:Ad):Prop where
 start:Pt S (.pointer (some ⟨0,0,none⟩)) (⟨Gf.l⟩:H7 UInt32 8)
 cons:Pt S (.pointer (some ⟨1,0,none⟩)) (⟨Il⟩:H7 UInt32 64)
theorem Bu.mono {S S'} (hS:S.Le S') (h:Bu S):Bu S':=⟨h.start.mono hS,h.cons.mono hS⟩
instance l7 {n:Nat}:FlatC (H7 UInt8 n) (fun a=>u8s a.l):=⟨fun {S cs x} h=>h.2.eq_u8s⟩
theorem Vl {v S M w T z n c} (h:St S (.sl v T z n c::M) w):(∃ a k,v=.slice a n k):=by
 rcases (h.get (k:=0) rfl).2 with ⟨rfl,rfl⟩|⟨g,cap,cur,fz,rfl,_⟩<;>exact ⟨_,_,rfl⟩
def lenOf:Value→Nat
 | .slice _ n _=>n
 | _=>0
theorem PH {v S M w T z n c} (h:St S (.sl v T z n c::M) w):lenOf v=n:=by
 obtain ⟨a,k,rfl⟩:=Vl h;rfl
set_option maxRecDepth 100000 in
theorem ip {S M} (w) (V:St S M w) (hG:Bu S) (vb b) (hb:RSl S vb b) (hm:b.length≤8000000):
  Ac prog 122 [vb] w fun v w'=>v=.agg (u8s (IP b)).toArray∧St S M w':=by
 refine Gz func122 rfl ?_;simp only [ntmps122,List.size_toArray,List.length_cons,List.length_nil,Nat.reduceAdd,Nat.reduceSub,Array.replicate_succ,Array.replicate_zero,List.push_toArray,List.append_toArray,List.nil_append,List.cons_append];have hpz:Jy b.length < 64:=Nat.mod_lt _ (by decide);repeat' (first|(apply O ();go_step)|(apply kc ();refine sc (dP _ V vb b hb (by omega)) ?_;clear V;rintro v w V)|(apply sZ ();clear V;intro bk w V)|fail)
 rename Nat=>b2
 refine Ay (vs:=[.int .u8 128]) V Y Y rfl rfl (by simp [Value.cells]) rfl (by omega) (by omega) ?_;clear V;intro u w V;refine nY ?_;refine AF (j:=0) V X X SlIn.h rfl Y Y Y (by simp [Value.cells,Value.oneCell']) (by omega) (by omega) (by decide) ?_;clear V;intro v' w V;refine nY ?_;(try replace V:=nH V);replace V:=V.drop;repeat' (first|(apply O ();go_step)|fail)
 have hone:=Go.Sl.AY V
 have V:St S (.sl v' 5 1 (b++[128]).length (u8s (b++[128]))::.box b2 (u8s (List.replicate 32 0)) 199::M) w:=by
  rw [List.length_append,Iy];exact V
 go_loopw [3] (fun v wr=>∃ (j:Nat) (c:List UInt8),j≤Jy b.length∧Hid (c=b++[128]++List.replicate j 0)∧(b.length+1+j≤c.length∧c.length≤b.length+1+j)∧v.oneCell'=true∧lenOf v=c.length∧St S (.sl v 5 1 c.length (u8s c)::.box b2 (u8s (List.replicate 32 0)) 199::M) wr) (fun v _=>b.length+65 - lenOf v)
 case atStart=>exact ⟨0,_,by omega,Lib.hid (by simp),by simp,hone,PH V,V⟩
 case round =>
  clear V;obtain ⟨j,c,hj,hc,hcl,hone,hlo,V⟩:=hrel;have Hlo:=Lib.hid hlo;clear hlo
  have hmod:((c.length:Int) % 64=56→Jy b.length≤j)∧(Jy b.length≤j→(c.length:Int) % 64=56):=by
   unfold Jy at hj ⊢;omega
  by_cases hlt:j < Jy b.length
  ·have h56:((c.length:Int) % 64 == 56)=false:=beq_eq_false_iff_ne.2 (by omega);have h56':((c.length:Int) % 64 != 56)=true:=bne_iff_ne.2 (by omega);clear hmod;repeat' (first|(apply O ();go_step)|apply sY ()|fail)
   refine Ay (vs:=[.int .u8 0]) V Y Y rfl rfl (by simp [Value.cells]) rfl (by omega) (by omega) ?_;clear V;intro u w V;refine nY ?_;refine AF (j:=0) V X X SlIn.h rfl Y Y Y (by simp [Value.cells,Value.oneCell']) (by omega) (by omega) (by decide) ?_;clear V;intro v' w V;refine nY ?_;(try replace V:=nH V);replace V:=V.drop;repeat' (first|(apply O ();go_step)|fail)
   have hone':=Go.Sl.AY V;have hlo':=PH V;go_roundw
   case rel=>exact ⟨j+1,c++[0],by omega,Lib.hid (by rw [hc.out,List.append_assoc,List.append_assoc,List.append_assoc,← List.replicate_succ']),by simp;omega,hone',by simpa using hlo',by rw [List.length_append,Iy];exact V⟩
   case measure =>
    have h1:=Hlo.out;have h2:lenOf v'=c.length+1:=by simpa using hlo'
    show b.length+65 - lenOf v' < b.length+65 - lenOf _;rw [h2];omega
  ·have h56':((c.length:Int) % 64 != 56)=false:=bne_eq_false_iff_eq.2 (by omega);clear hmod;obtain rfl:j=Jy b.length:=by omega
   repeat' (first|(apply O ();go_step)|(apply kc ();refine sc (RT _ _ c 16000000 V (8 * b.length) 8 (by omega) (by omega) (by omega) (by omega)) ?_;clear V;rintro v w V)|apply sY ()|fail)
   have hpad:c++be (8 * b.length) 8=FL b:=by rw [hc.out];rfl
   rw [hpad] at V;obtain ⟨S1,hS1,V,hpv⟩:=Nu (FL b) V rfl rfl;have hone1:=hpv.oneCell;have hG1:=hG.mono hS1;have hG2:=hG1.start;repeat' (first|apply sP ()|(apply sZ ();clear V;intro bk w V)|fail)
   refine Ax V rfl _ N.h Y (cs:=I6 Gf) X rfl rfl rfl (by simp) ?_;clear V;intro w V;rename Nat=>b5
   have V:St S1 (.box b5 [.nilFunc] 221::.box bk (I6 Gf) 220::.box b2 (u8s (List.replicate 32 0)) 199::M) w:=V;repeat' (first|(apply O ();go_step)|(apply kc ();refine sc (dQ _ V v (FL b) hpv) ?_;clear V;rintro v w ⟨S2,ps,pn,hS2,rfl,hps,hpn,V⟩)|(apply sT ();clear V;intro w V)|fail)
   have hG3:=hG1.mono hS2;have hG4:=hG3.cons;have hlen:(FL b).length=64 * ((FL b).length / 64):=by have:=cr b;omega
   have hpl:(FL b).length≤16777216:=by rw [Sa];omega
   refine Yh (I:=fun k=>[.box b5 [.func (.func 140) #[] #[]] 221,.box bk (I6 (IW (FL b) k)) 220]) (M0:=.box b2 (u8s (List.replicate 32 0)) 199::M) V rfl Y (ZM (FL b) ((FL b).length / 64) hlen hpl ps pn hps hpn) ?_ (by simp) ?_ ?_
   ·rintro k vs ⟨v,rfl,_⟩;rfl
   ·clear V;rintro r k v C w hk ⟨_,hv,hvc⟩ V;obtain rfl:=(List.cons.inj hv).1;simp only [List.cons_append,List.nil_append] at V;refine nY ?_;refine wpIn_block (Fw (.inr ⟨r,rfl⟩) ?_ rfl ?_)
    ·rintro ⟨a,w,h,_⟩;cases h
    ·have hcl:(LO (FL b) k).length=64:=by rw [LO,List.length_take,List.length_drop];omega
     repeat' (first|(apply O ();go_step)|(apply kc ();refine Eh (Uv _ V hG4 (IW (FL b) k) _ (LO (FL b) k) hvc hcl) rfl Y rfl rfl ?_;clear V;rintro v w ⟨rfl,V⟩<;>apply nZ ()<;>(try replace V:=nH V))|(apply tL ();refine Ag V (by first|exact BB X N.h Y FS|exact AT rfl _ N.h Y rfl rfl) ?_<;>apply nZ ())|(apply sT ();clear V;intro w V)|fail)
     exact ⟨trivial,V⟩
   ·clear V;intro d w V;have V:St S2 (.obj d (.deferred (some []))::.box b5 [.func (.func 140) #[] #[]] 221::.box bk (cF CH (IW (FL b) ((FL b).length / 64)).l) 220::.box b2 (u8s (List.replicate 32 0)) 199::M) w:=V;obtain ⟨s8,hs8⟩:∃ s8,IW (FL b) ((FL b).length / 64)=s8:=⟨_,rfl⟩
    rw [hs8] at V;have H8:Hid (IP b=P7 s8):=Lib.hid (by rw [IP,hs8]);clear hs8;repeat' (first|(apply O ();go_step)|(apply tL ();refine Ag V (by exact BB X N.h Y FS) ?_<;>apply nZ ())|fail)
    go_loopw [7,36] (fun vo v wr=>∃ (i:Nat) (c:List UInt8),i≤8∧v=.int .i64 i∧Hid (c=(s8.l.take i).flatMap fun x=>be x.toNat 4)∧c.length≤4 * i∧vo.oneCell'=true∧St S2 (.sl vo 5 1 c.length (u8s c)::.obj d (.deferred (some []))::.box b5 [.func (.func 140) #[] #[]] 221::.box bk (cF CH s8.l) 220::.box b2 (u8s (List.replicate 32 0)) 199::M) wr) (fun _ v _=>8 - (intOf v).toNat)
    case atStart=>exact ⟨0,[],by omega,rfl,Lib.hid rfl,by simp,rfl,V.nil _ 1⟩
    case round =>
     clear V;obtain ⟨i,c,hi,rfl,hc,hcl,hone,V⟩:=hrel;by_cases hlt:i < 8
     ·have hll:i < s8.l.length:=hlt;have h32:=(s8.l.getD i 0).toNat_lt;repeat' (first|(with_reducible refine Go.Sl.kV ?_;refine Ag V (by exact Rp rfl Y Y) ?_<;>apply nZ ())|(apply tX ();refine Ag V (by exact OU X rfl Y Y Af Af Af) ?_<;>apply nZ ())|(apply O ();go_step)|(apply kc ();refine sc (RT _ _ c 32 V (s8.l.getD i 0).toNat 4 (by omega) (by omega) (by omega) (by omega)) ?_;clear V;rintro v w V)|fail)
      have hone':=Go.Sl.AY V;go_roundw
      case rel=>exact ⟨i+1,_,by omega,by go_num,Lib.hid (by rw [hc.out,List.take_succ_eq_append_getElem hll,List.flatMap_append,List.flatMap_cons,List.flatMap_nil,List.append_nil,List.getD_eq_getElem?_getD,List.getElem?_eq_getElem hll];rfl),by rw [List.length_append,NM];omega,hone',V⟩
      case measure=>simp [intOf];omega
     ·obtain rfl:i=8:=by omega
      have hout:c=IP b:=by rw [hc.out,H8.out];rfl
      rw [hout] at V;obtain ⟨S3,hS3,V,hov⟩:=Nu (IP b) V rfl rfl;have hov1:=hov.oneCell;have hhl:=Mz b;repeat' (first|(apply O ();go_step)|fail)
      refine An V (Nh X hov Y hhl (by decide)) ?_;rintro p L;refine nY ?_;repeat' (first|apply sP ()|fail)
      refine Ax V rfl _ N.h Y (cs:=u8s (IP b)) X rfl (by rw [Bh,hhl]) (List.all_eq_true.2 (Fh _)) (by simp [u8s]) ?_;clear V;intro w V
      have V:St S3 (.obj d (.deferred (some []))::.box b5 [.func (.func 140) #[] #[]] 221::.box bk (cF CH s8.l) 220::.box b2 (u8s (IP b)) 199::M) w:=by
       simpa [u8s] using V
      repeat' (first|(apply O ();go_step)|fail)
      refine I7 V rfl (fun w' hst'=>AZ (cs:=u8s (IP b)) hst' rfl 2 rfl Y ?_ (by rw [Bh,hhl])) fun w' hst'=>⟨_,rfl,rfl,St.weaken ((hS1.trans hS2).trans hS3) hst'.drop.drop.drop⟩
      rw [List.drop_zero,List.take_of_length_le (by rw [Bh,hhl];exact Nat.le_refl _)]
def Fr (parts:List (List UInt8)):List UInt8:=parts.flatMap Lk
def DO (tag:Int) (parts:List (List UInt8)):List UInt8:=(IP (UInt8.ofNat tag.toNat::Fr parts)).take 16
theorem Cx (tag parts):(DO tag parts).length=16:=by rw [DO,List.length_take,Mz];rfl
def CT (parts:List (List UInt8)):Nat:=(parts.map List.length).sum+10 * parts.length
theorem O5 (parts):(Fr parts).length≤CT parts:=by
 induction parts with
 | nil=>simp [Fr,CT]
 | cons p r ih =>
  have:=Dq p.length;simp only [Fr,CT,List.flatMap_cons,List.length_append,List.map_cons,List.sum_cons,List.length_cons,Lk] at ih ⊢;omega
theorem Tm (parts i):CT (parts.take i)≤CT parts:=by
 induction parts generalizing i with
 | nil=>simp [CT]
 | cons p r ih =>
  cases i with
  | zero=>simp [CT]
  | succ i =>
   have:=ih i;simp only [List.take_succ_cons,CT,List.map_cons,List.sum_cons,List.length_cons] at this ⊢;omega
theorem Vm {parts p} (h:p∈parts):p.length≤CT parts:=by
 induction parts with
 | nil=>cases h
 | cons q r ih =>
  simp only [CT,List.map_cons,List.sum_cons,List.length_cons] at ih ⊢;rcases List.mem_cons.1 h with rfl|h
  ·omega
  ·have:=ih h;omega
theorem f9 {S M} (w vb b) (V:St S (.sl vb 5 1 b.length (u8s b)::M) w) (vp parts) (L:RSl S vp parts) (hb:b.length≤1000) (hs:CT parts≤1048576):
  Ac prog 123 [vb,vp] w fun v w'=>St S (.sl v 5 1 (b++Fr parts).length (u8s (b++Fr parts))::M) w':=by
 unfold Ac;have h1:=Go.Sl.AY V;have hpn:parts.length≤1048576:=by unfold CT at hs;omega
 go_enter func123,ntmps123;repeat' (first|(apply O ();go_step)|apply sY ()|fail)
 go_loopw [0,9] (fun u v wr=>∃ (i:Nat) (c:List UInt8),i≤parts.length∧v=.int .i64 i∧Hid (c=b++Fr (parts.take i))∧c.length≤b.length+CT parts∧u.oneCell'=true∧St S (.sl u 5 1 c.length (u8s c)::M) wr) (fun _ v _=>parts.length - (intOf v).toNat)
 case atStart=>exact ⟨0,b,Nat.zero_le _,rfl,Lib.hid (by simp [Fr]),by omega,h1,V⟩
 case round =>
  clear V;obtain ⟨i,c,hi,rfl,hc,hcl,hone,V⟩:=hrel;by_cases hlt:i < parts.length
  ·have hpl:=Vm (List.getElem_mem hlt)
   have hcn:(c++Lk parts[i]).length≤b.length+CT parts:=by
    have h1:=O5 (parts.take (i+1));have h2:=Tm parts (i+1)
    have e:c++Lk parts[i]=b++Fr (parts.take (i+1)):=by
     rw [hc.out,List.take_succ_eq_append_getElem hlt,Fr,Fr,List.flatMap_append,List.append_assoc];simp
    rw [e,List.length_append];omega
   rw [List.length_append] at hcn;repeat' (first|(with_reducible refine Go.Sl.kV ?_;refine Vy V X Ak Y Y Y ?_<;>apply nZ ())|(apply O ();go_step)|(apply kc ();refine sc (dY _ V parts[i] (by omega)) ?_;clear V;rintro v w V)|(apply tL ();refine An V (Aj X Ak Y) ?_;rintro v ⟨hvl,hv1⟩<;>apply nZ ())|(apply sJ ();intro v L)|fail)
   refine AF (j:=0) V X X SlIn.h rfl Y Y Y (Fh _) (by omega) (by omega) (by decide) ?_;clear V;intro v' w V;apply nZ ();(try replace V:=nH V);replace V:=V.drop;repeat' (first|(apply O ();go_step)|fail)
   have hone':=Go.Sl.AY V;go_roundw
   case rel =>
    refine ⟨i+1,c++Lk parts[i],by omega,by go_num,Lib.hid ?_,by rw [List.length_append];exact hcn,hone',?_⟩
    ·rw [hc.out,List.take_succ_eq_append_getElem hlt,Fr,Fr,List.flatMap_append,List.append_assoc];simp
    ·rw [J5,List.length_append];exact V
   case measure=>simp [intOf];omega
  ·repeat' (first|(apply O ();go_step)|fail)
   go_ret;refine ⟨_,rfl,?_⟩;rw [List.take_of_length_le (l:=parts) (i:=i) (by omega)] at hc;rw [← hc.out];exact V
theorem ba {S M} (w) (V:St S M w) (h) (hl:h.length=32):
  Ac prog 121 [.agg (u8s h).toArray] w fun v w'=>v=.agg (u8s (h.take 16)).toArray∧St S M w':=by
 unfold Ac;go_enter func121,ntmps121;repeat' (first|(apply O ();go_step)|(apply sC ();clear V;intro bx w V)|(apply sZ ();clear V;intro bk w V)|fail)
 obtain ⟨S1,hS1,V,hph⟩:=AC (α:=H7 UInt8 32) (x:=⟨h⟩) V.swap (by exact ⟨hl,LA h⟩) (by rw [Bh,hl];rfl);refine An V (FA (a:=0) (b:=16) X hph Y Y (.inl ⟨rfl,rfl⟩) (.inr ⟨.i64,rfl⟩) (by omega) (by omega) (by unfold maxLen;omega)) ?_;rintro v hv;refine nY ?_;have hvl:((h.drop 0).take (16 - 0)).length=16:=by rw [List.length_take,List.length_drop];omega
 refine An V (Nh X hv Y hvl (by decide)) ?_;rintro p L;refine nY ?_;repeat' (first|apply sP ()|fail)
 refine Ax V rfl _ N.h Y (cs:=u8s (h.take 16)) X rfl (by rw [Bh];exact hvl) (List.all_eq_true.2 (Fh _)) (by simp) ?_;clear V;intro w V
 have V:St S1 (.box bk (u8s (h.take 16)) 23::M) w:=by
  simpa [u8s] using V
 repeat' (first|(apply O ();go_step)|fail)
 refine Bl rfl V rfl 0 rfl Y (cs:=u8s (h.take 16)) ?_ (by rw [Bh];exact hvl) ⟨_,rfl,rfl,St.weaken hS1 V.drop⟩;rw [List.drop_zero,List.take_of_length_le (by rw [Bh];exact Nat.le_of_eq hvl)]
theorem Fa {S M} (w) (V:St S M w) (hG:Bu S) (tag) (h0:0≤tag∧tag≤255) (vp parts) (L:RSl S vp parts) (hs:CT parts≤1048576):
  Ac prog 73 [.int .i64 tag,vp] w fun v w'=>v=.agg (u8s (DO tag parts)).toArray∧St S M w':=by
 unfold Ac;obtain ⟨t,rfl⟩:∃ t:Nat,tag=t:=⟨tag.toNat,by omega⟩
 have ht:[Value.int .u8 (t:Int)]=u8s [UInt8.ofNat t]:=by
  simp only [u8s,List.map_cons,List.map_nil,UInt8.toNat_ofNat']
  congr 2
  omega
 go_enter func73,ntmps73;repeat' (first|(apply O ();go_step)|(apply sZ ();clear V;intro bk w V)|fail)
 refine Ay (vs:=[.int .u8 (t:Int)]) V Y Y rfl rfl (by simp [Value.cells]) rfl (by omega) (by omega) ?_;clear V;intro x w V;have V:St S (.sl x 5 1 [UInt8.ofNat t].length (u8s [UInt8.ofNat t])::.box bk (u8s (List.replicate 16 0)) 23::M) w:=by rw [← ht];exact V
 refine nY ?_;have hjl:=O5 parts;repeat' (first|(apply O ();go_step)|(apply kc ();refine sc (f9 _ _ [UInt8.ofNat t] V vp parts L (by simp) hs) ?_;clear V;rintro v w V)|fail)
 obtain ⟨S1,hS1,V,hv⟩:=Nu _ V rfl rfl;repeat' (first|(apply kc ();refine sc (ip _ V (hG.mono hS1) _ _ hv (by simp;omega)) ?_;clear V;rintro v w ⟨rfl,V⟩)|(apply kc ();refine sc (ba _ V _ (Mz _)) ?_;clear V;rintro v w ⟨rfl,V⟩)|fail)
 have hdl:(DO (t:Int) parts).length=16:=Cx _ _;refine Ax V rfl _ N.h Y (cs:=u8s (DO (t:Int) parts)) X rfl (by rw [Bh,hdl]) (List.all_eq_true.2 (Fh _)) (by simp [u8s]) ?_;clear V;intro w V
 have V:St S1 (.box bk (u8s (DO (t:Int) parts)) 23::M) w:=by
  simpa [u8s] using V
 repeat' (first|(apply O ();go_step)|fail)
 refine Bl rfl V rfl 0 rfl Y (cs:=u8s (DO (t:Int) parts)) ?_ (by rw [Bh,hdl]) ⟨_,rfl,rfl,St.weaken hS1 V.drop⟩;rw [List.drop_zero,List.take_of_length_le (by rw [Bh,hdl];exact Nat.le_refl _)]
def Eo:Nat→Nat→Nat→Nat
 | 0,_,k=>k
 | f+1,n,k=>if 2 * k < n then Eo f n (2 * k) else k
def Av (n:Nat):Nat:=Eo n n 1
theorem LZ:∀ (f n k:Nat),1≤k→k < n→1≤Eo f n k∧Eo f n k < n
 | 0,n,k,h1,h2=>⟨h1,h2⟩
 | f+1,n,k,h1,h2=>by
  unfold Eo;split
  ·exact LZ f n (2 * k) (by omega) (by omega)
  ·exact ⟨h1,h2⟩
theorem Cs {n} (h:2≤n):1≤Av n∧Av n < n:=LZ n n 1 (by omega) (by omega)
theorem FQ {f n k} (h:¬ 2 * k < n):Eo f n k=k:=by cases f<;>simp [Eo,h]
theorem Vj:∀ (f n k:Nat),2 * k < n→n≤f+k→Eo f n k=Eo (f - 1) n (2 * k)
 | 0,n,k,h1,h2=>by omega
 | f+1,n,k,h1,h2=>by rw [Eo,if_pos h1];rfl
theorem L0:∀ (f g n k:Nat),1≤k→n≤f+k→n≤g+k→Eo f n k=Eo g n k
 | 0,g,n,k,h0,h1,h2=>by rw [FQ (by omega),FQ (by omega)]
 | f+1,0,n,k,h0,h1,h2=>by rw [FQ (by omega),FQ (by omega)]
 | f+1,g+1,n,k,h0,h1,h2=>by
  unfold Eo;split
  ·exact L0 f g n (2 * k) (by omega) (by omega) (by omega)
  ·rfl
def DF (d:Dg):Dg:=⟨DO 1 [d.l]⟩
def F1 (a b:Dg):Dg:=⟨DO 2 [a.l,b.l]⟩
def QR:Dg:=⟨DO 1 []⟩
def Gy:Nat→List Dg→Dg
 | _,[]=>QR
 | _,[d]=>DF d
 | 0,_=>QR
 | f+1,l=>F1 (Gy f (l.take (Av l.length))) (Gy f (l.drop (Av l.length)))
def Cg (l:List Dg):Dg:=Gy l.length l
theorem Ic:∀ (f g:Nat) (l:List Dg),l.length≤f→l.length≤g→Gy f l=Gy g l
 | f,g,[],_,_=>by cases f<;>cases g<;>rfl
 | f,g,[d],_,_=>by cases f<;>cases g<;>rfl
 | 0,g,a::b::r,h,_=>by simp at h
 | f+1,0,a::b::r,_,h=>by simp at h
 | f+1,g+1,a::b::r,h1,h2=>by
  have hs:=Cs (n:=(a::b::r).length) (by simp);have e1:((a::b::r).take (Av (a::b::r).length)).length≤f:=by rw [List.length_take];omega
  have e2:((a::b::r).drop (Av (a::b::r).length)).length≤f:=by rw [List.length_drop];omega
  have e3:((a::b::r).take (Av (a::b::r).length)).length≤g:=by rw [List.length_take];omega
  have e4:((a::b::r).drop (Av (a::b::r).length)).length≤g:=by rw [List.length_drop];omega
  rw [Gy,Gy,Ic f g _ e1 e3,Ic f g _ e2 e4];all_goals simp
theorem OP {l} (h:2≤l.length):Cg l=F1 (Cg (l.take (Av l.length))) (Cg (l.drop (Av l.length))):=by
 have hs:=Cs h
 match l,h with
 | a::b::r,h =>
  have e1:((a::b::r).take (Av (a::b::r).length)).length≤r.length+1:=by rw [List.length_take];simp at hs ⊢;omega
  have e2:((a::b::r).drop (Av (a::b::r).length)).length≤r.length+1:=by rw [List.length_drop];simp at hs ⊢;omega
  show Gy (r.length+1+1) (a::b::r)=_;rw [Gy,Cg,Cg,Ic _ (r.length+1) _ (Nat.le_refl _) e1,Ic _ (r.length+1) _ (Nat.le_refl _) e2];all_goals simp
def Dh:Nat→List Dg→Nat→List Dg
 | 0,_,_=>[]
 | f+1,l,i=>if l.length < 2 then [] else
  if i < Av l.length then Dh f (l.take (Av l.length)) i++[Cg (l.drop (Av l.length))]
  else Dh f (l.drop (Av l.length)) (i - Av l.length)++[Cg (l.take (Av l.length))]
def Bk (l:List Dg) (i:Nat):List Dg:=Dh l.length l i
theorem G6:∀ (f g:Nat) (l:List Dg) (i:Nat),l.length≤f→l.length≤g→Dh f l i=Dh g l i
 | 0,0,l,i,_,_=>rfl
 | 0,g+1,l,i,h,_=>by rw [Dh,Dh,if_pos (by omega)]
 | f+1,0,l,i,_,h=>by rw [Dh,Dh,if_pos (by omega)]
 | f+1,g+1,l,i,h1,h2=>by
  unfold Dh;by_cases h:l.length < 2
  ·rw [if_pos h,if_pos h]
  ·have hs:=Cs (n:=l.length) (by omega);have e1:(l.take (Av l.length)).length≤f:=by rw [List.length_take];omega
   have e2:(l.drop (Av l.length)).length≤f:=by rw [List.length_drop];omega
   have e3:(l.take (Av l.length)).length≤g:=by rw [List.length_take];omega
   have e4:(l.drop (Av l.length)).length≤g:=by rw [List.length_drop];omega
   rw [if_neg h,if_neg h,G6 f g _ i e1 e3,G6 f g _ _ e2 e4]
theorem TF {l} (h:l.length < 2) (i):Bk l i=[]:=by
 unfold Bk
 cases e:l.length with
 | zero=>rfl
 | succ n=>rw [Dh,if_pos h]
theorem L6 {l i} (h:2≤l.length) (hi:i < Av l.length):Bk l i=Bk (l.take (Av l.length)) i++[Cg (l.drop (Av l.length))]:=by
 have hs:=Cs h;obtain ⟨n,hn⟩:∃ n,l.length=n+1:=⟨l.length - 1,by omega⟩
 have e1:(l.take (Av l.length)).length≤n:=by rw [List.length_take];omega
 rw [Bk,Bk,G6 _ n _ _ (Nat.le_refl _) e1]
 conv=>lhs;rw [hn,Dh]
 rw [if_neg (by omega),if_pos hi]
theorem KY {l i} (h:2≤l.length) (hi:¬ i < Av l.length):Bk l i=Bk (l.drop (Av l.length)) (i - Av l.length)++[Cg (l.take (Av l.length))]:=by
 have hs:=Cs h;obtain ⟨n,hn⟩:∃ n,l.length=n+1:=⟨l.length - 1,by omega⟩
 have e1:(l.drop (Av l.length)).length≤n:=by rw [List.length_drop];omega
 rw [Bk,Bk,G6 _ n _ _ (Nat.le_refl _) e1]
 conv=>lhs;rw [hn,Dh]
 rw [if_neg (by omega),if_neg hi]
def Dv:Nat→Nat→Nat→List Bool
 | 0,_,_=>[]
 | f+1,n,i=>if n < 2 then [] else if i < Av n then true::Dv f (Av n) i else false::Dv f (n - Av n) (i - Av n)
def CO (n i:Nat):List Bool:=Dv n n i
theorem G1:∀ (f g n i:Nat),n≤f→n≤g→Dv f n i=Dv g n i
 | 0,0,n,i,_,_=>rfl
 | 0,g+1,n,i,h,_=>by rw [Dv,Dv,if_pos (by omega)]
 | f+1,0,n,i,_,h=>by rw [Dv,Dv,if_pos (by omega)]
 | f+1,g+1,n,i,h1,h2=>by
  unfold Dv;by_cases h:n < 2
  ·rw [if_pos h,if_pos h]
  ·have hs:=Cs (n:=n) (by omega);rw [if_neg h,if_neg h,G1 f g (Av n) i (by omega) (by omega),G1 f g (n - Av n) _ (by omega) (by omega)]
theorem Ts {n} (h:n < 2) (i):CO n i=[]:=by
 unfold CO
 cases n with
 | zero=>rfl
 | succ n=>rw [Dv,if_pos h]
theorem L3 {n i} (h:2≤n) (hi:i < Av n):CO n i=true::CO (Av n) i:=by
 have hs:=Cs h;obtain ⟨m,rfl⟩:∃ m,n=m+1:=⟨n - 1,by omega⟩
 have e:CO (m+1) i=true::Dv m (Av (m+1)) i:=by
  show Dv (m+1) (m+1) i=_;rw [Dv,if_neg (by omega),if_pos hi]
 rw [e,CO,G1 m (Av (m+1)) _ _ (by omega) (Nat.le_refl _)]
theorem KO {n i} (h:2≤n) (hi:¬ i < Av n):CO n i=false::CO (n - Av n) (i - Av n):=by
 have hs:=Cs h;obtain ⟨m,rfl⟩:∃ m,n=m+1:=⟨n - 1,by omega⟩
 have e:CO (m+1) i=false::Dv m (m+1 - Av (m+1)) (i - Av (m+1)):=by
  show Dv (m+1) (m+1) i=_;rw [Dv,if_neg (by omega),if_neg hi]
 rw [e,CO,G1 m (m+1 - Av (m+1)) _ _ (by omega) (Nat.le_refl _)]
def IB (d:Dg) (x:Bool×Dg):Dg:=if x.1 then F1 d x.2 else F1 x.2 d
def Jk (sides:List Bool) (leaf:Dg) (proof:List Dg):Dg:=(sides.reverse.zip proof).foldl IB (DF leaf)
def Cj (root:Dg) (n i:Nat) (leaf:Dg) (proof:List Dg):Bool:=decide (i < n) && (decide ((CO n i).length=proof.length) && decide (Jk (CO n i) leaf proof=root))
theorem Py {α β:Type}:∀ (a:List α) (b:List β) (x:α) (y:β),a.length=b.length→(a++[x]).zip (b++[y])=a.zip b++[(x,y)]
 | [],[],_,_,_=>rfl
 | _::a,_::b,x,y,h=>by simp [Py a b x y (by simpa using h)]
theorem NB (sides b leaf proof s) (h:sides.length=proof.length):Jk (b::sides) leaf (proof++[s])=IB (Jk sides leaf proof) (b,s):=by
 rw [Jk,List.reverse_cons,Py _ _ _ _ (by simpa using h),List.foldl_append];rfl
theorem MD:∀ (m:Nat) (l:List Dg) (n i:Nat),l.length=n→n≤m→(hi:i < l.length)→(CO n i).length=(Bk l i).length∧Jk (CO n i) l[i] (Bk l i)=Cg l
 | 0,l,n,i,e,h,hi=>by omega
 | m+1,l,n,i,e,h,hi=>by
  subst e;by_cases h2:l.length < 2
  ·have h1:l.length=1:=by omega
   obtain ⟨d,rfl⟩:=List.length_eq_one_iff.1 h1;obtain rfl:i=0:=by simpa using hi
   exact ⟨rfl,rfl⟩
  ·have h2:2≤l.length:=by omega
   have hs:=Cs h2;rw [OP h2];by_cases hk:i < Av l.length
   ·have hl:(l.take (Av l.length)).length=Av l.length:=by rw [List.length_take];omega
    have ih:=MD m (l.take (Av l.length)) (Av l.length) i hl (by omega) (by omega);rw [L3 h2 hk,L6 h2 hk];refine ⟨by simp [ih.1],?_⟩;rw [NB _ _ _ _ _ ih.1,← ih.2,List.getElem_take];rfl
   ·have hl:(l.drop (Av l.length)).length=l.length - Av l.length:=by rw [List.length_drop]
    have ih:=MD m (l.drop (Av l.length)) (l.length - Av l.length) (i - Av l.length) hl (by omega) (by omega);rw [KO h2 hk,KY h2 hk];refine ⟨by simp [ih.1],?_⟩;rw [NB _ _ _ _ _ ih.1,← ih.2,List.getElem_drop];simp only [show Av l.length+(i - Av l.length)=i by omega];rfl
theorem MT {l i} (hi:i < l.length):Cj (Cg l) l.length i l[i] (Bk l i)=true:=by
 have:=MD l.length l l.length i rfl (Nat.le_refl _) hi;simp [Cj,hi,this.1,this.2]
theorem ld {S v} {x:List UInt8} (h:RSl S v x):RL S [v] [x]:=by
 refine ⟨rfl,fun i y hy=>?_⟩
 match i,hy with
 | 0,hy=>cases hy;exact ⟨v,rfl,h⟩
theorem k9 {S v u} {x y:List UInt8} (h:RSl S v x) (k:RSl S u y):RL S [v,u] [x,y]:=by
 refine ⟨rfl,fun i z hz=>?_⟩
 match i,hz with
 | 0,hz=>cases hz;exact ⟨v,rfl,h⟩
 | 1,hz=>cases hz;exact ⟨u,rfl,k⟩
theorem fV {S M w v u T} {x:List UInt8} (h:St S (.sl v T 1 1 [u]::M) w) (hu:RSl S u x):∃ S',S.Le S'∧St S' M w∧RSl S' v [x] :=
 St.freeze (α:=List UInt8) h (ld hu) rfl
theorem fU {S M w v u u' T} {x y:List UInt8} (h:St S (.sl v T 1 2 [u,u']::M) w) (hu:RSl S u x) (hu':RSl S u' y):∃ S',S.Le S'∧St S' M w∧RSl S' v [x,y] :=
 St.freeze (α:=List UInt8) h (k9 hu hu') rfl
theorem QS {S M w b T} {d:Dg} (h:St S (.box b (u8s d.l) T::M) w) (hl:d.l.length=16):∃ S',S.Le S'∧St S' M w∧Pt S' (.pointer (some ⟨b,0,none⟩)) d :=
 AC (α:=Dg) (x:=d) h (by exact ⟨hl,LA d.l⟩) (by rw [Bh,hl];rfl)
theorem K8 (d):(DF d).l.length=16:=Cx _ _
theorem K3 (a b):(F1 a b).l.length=16:=Cx _ _
theorem NF:QR.l.length=16:=Cx _ _
abbrev Cu (d:Dg):Value:=.agg (u8s d.l).toArray
theorem VF:∀ (f:Nat) (l:List Dg),(Gy f l).l.length=16
 | f,[]=>by cases f<;>exact NF
 | f,[d]=>by cases f<;>exact K8 d
 | 0,a::b::r=>NF
 | f+1,a::b::r=>by rw [Gy];exact K3 _ _;all_goals simp
theorem CA (l):(Cg l).l.length=16:=VF _ _
instance nb {t:Int} {p:List (List UInt8)}:LenIs (DO t p) 16:=⟨Cx _ _⟩
instance mc {d:Dg}:LenIs (DF d).l 16:=⟨K8 _⟩
instance ma {a b:Dg}:LenIs (F1 a b).l 16:=⟨K3 _ _⟩
theorem N0 {S M} (w) (V:St S M w) (n:Nat) (h2:2≤n) (hm:n≤1048576):
  Ac prog 80 [.int .i64 (n:Int)] w fun v w'=>v=.int .i64 (Av n:Nat)∧St S M w':=by
 unfold Ac;go_enter func80,ntmps80;repeat' (first|(apply O ();go_step)|fail)
 go_loopw [3] (fun v wr=>∃ (k:Nat),1≤k∧k < n∧v=.int .i64 k∧Hid (Eo n n k=Av n)∧St S M wr) (fun v _=>n - (intOf v).toNat)
 case atStart=>exact ⟨1,by omega,by omega,rfl,Lib.hid rfl,V⟩
 case round =>
  clear V;obtain ⟨k,h1,hk,rfl,hs,V⟩:=hrel;by_cases hlt:2 * k < n
  ·repeat' (first|(apply O ();go_step)|fail)
   go_roundw
   case rel=>exact ⟨2 * k,by omega,hlt,by go_num,Lib.hid (by rw [← hs.out,Vj n n k hlt (by omega)];exact L0 _ _ _ _ (by omega) (by omega) (by omega)),V⟩
   case measure=>simp [intOf];omega
  ·repeat' (first|(apply O ();go_step)|fail)
   go_ret;refine ⟨_,rfl,?_,V⟩;rw [← hs.out,FQ hlt];rfl
theorem We {S M} (w) (V:St S M w) (hG:Bu S) (d) (hd:d.l.length=16):
  Ac prog 124 [Cu d] w fun v w'=>v=Cu (DF d)∧St S M w':=by
 unfold Ac;go_enter func124,ntmps124;repeat' ((apply ZZ 1);first|(apply O ();go_step)|(apply sC ();clear V;intro bx w V)|(apply sZ ();clear V;intro bk w V)|fail)
 obtain ⟨S1,hS1,V,hpd⟩:=QS V.swap hd;refine wp_region_lit ?_;refine An V (FA (a:=0) (b:=16) X hpd Y Y (.inl ⟨rfl,rfl⟩) (.inl ⟨rfl,rfl⟩) (by omega) (by omega) (by unfold maxLen;omega)) ?_;rintro v hv;rw [List.drop_zero,List.take_of_length_le (by omega)] at hv;have hv1:=hv.oneCell;refine nY ?_;refine Ay (vs:=[v]) V Y Y rfl rfl (by simp [Hf hv1]) rfl (by omega) (by omega) ?_;clear V;intro x w V;simp only [List.map_cons,List.map_nil,Go.Sl.CS hv1,List.flatten_cons,List.flatten_nil,List.append_nil] at V;obtain ⟨S2,hS2,V,hx⟩:=fV V hv;refine nY ?_;repeat' (first|(apply tS ();refine Gx V rfl N.h Y X Y IK ?_;clear V;intro w V<;>apply nZ ()<;>(try replace V:=nH V))|(apply O ();go_step)|(apply kc ();refine sc (Fa _ V ((hG.mono hS1).mono hS2) 1 (by omega) _ _ hx (by simp [CT];omega)) ?_;clear V;rintro v w ⟨rfl,V⟩)|fail)
 exact Ke rfl V rfl N.h Y Y ⟨_,rfl,rfl,St.weaken (hS1.trans hS2) V.drop⟩
theorem Ob {S M} (w) (V:St S M w) (hG:Bu S) (a b) (ha:a.l.length=16) (hb:b.l.length=16):
  Ac prog 125 [Cu a,Cu b] w fun v w'=>v=Cu (F1 a b)∧St S M w':=by
 unfold Ac;go_enter func125,ntmps125;repeat' ((apply ZZ 1);first|(apply O ();go_step)|(apply sC ();clear V;intro bx w V)|(apply sZ ();clear V;intro bk w V)|fail)
 obtain ⟨S1,hS1,V,hpb⟩:=QS (V.perm (List.Perm.swap _ _ _)) hb;obtain ⟨S2,hS2,V,hpa⟩:=QS V.swap ha;replace hpb:=hpb.mono hS2;have hG2:=(hG.mono hS1).mono hS2;refine AD V kr ?_;clear V;intro ops;apply nZ ()
 ((refine BN 0 rfl kr rfl rfl (fun w V=>FA (a:=0) (b:=16) X hpa Y Y (.inl ⟨rfl,rfl⟩) (.inl ⟨rfl,rfl⟩) (by omega) (by omega) (by unfold maxLen;omega) ) ?_;rintro  v5 hv5))<;>apply nZ ()
 ((refine BN 1 rfl kr rfl rfl (fun w V=>FA (a:=0) (b:=16) X hpb Y Y (.inl ⟨rfl,rfl⟩) (.inl ⟨rfl,rfl⟩) (by omega) (by omega) (by unfold maxLen;omega) ) ?_;rintro  v6 hv6))<;>apply nZ ()
 refine AP 2 rfl kr ?_;intro w V K G;(rw [List.drop_zero,List.take_of_length_le (by omega)] at hv5 hv6;refine Ay (vs:=[v5,v6]) V Y Y rfl rfl (by simp [Hf hv5.oneCell,Hf hv6.oneCell]) rfl (by omega) (by omega) ?_;clear V;intro x2 w V;simp only [List.map_cons,List.map_nil,Go.Sl.CS hv5.oneCell,Go.Sl.CS hv6.oneCell,List.flatten_cons,List.flatten_nil,List.append_nil,List.cons_append,List.nil_append] at V;obtain ⟨S3,hS3,V,hx⟩:=fU V hv5 hv6);apply nZ ();(try replace V:=nH V);refine Bg G V hS3 (Suf.refl _) ?_;clear V G K;(try clear w);apply nZ ();(refine AQ 3 rfl kr rfl (fun S' M' w hS hM V=>Fa w V ((hG2.mono hS3).mono hS) 2 (by omega) _ _ (hx.mono hS) (by simp [CT];omega)) Y rfl ?_)<;>apply nZ ()
 refine AP 4 rfl kr ?_;intro w V K G;(refine Gx V rfl N.h Y X Y IK ?_);clear V;intro w V;apply nZ ();(try replace V:=nH V);refine Bb G V ?_;clear V G K;(try clear w);apply nZ ();refine AJ kr ?_;clear ops;intro w V;repeat' (first|(apply O ();go_step)|fail)
 apply gO ()
theorem R1 {S M} (w) (V:St S M w) (hG:Bu S) (vl l) (hl:RSl S vl l) (h0:l.length=0):
  Ac prog 81 [vl] w fun v w'=>v=Cu (Cg l)∧St S M w':=by
 unfold Ac;obtain rfl:=List.eq_nil_of_length_eq_zero h0;have hnil:RSl S (.slice none 0 0) ([]:List (List UInt8)):=.inl ⟨none,0,rfl,rfl,by unfold maxLen;omega⟩;go_enter func81,ntmps81;repeat' (first|(apply tS ();refine Gx V rfl N.h Y X Y IK ?_;clear V;intro w V<;>apply nZ ()<;>(try replace V:=nH V))|(apply O ();go_step)|(apply kc ();refine sc (Fa _ V hG 1 (by omega) _ _ hnil (by simp [CT])) ?_;clear V;rintro v w ⟨rfl,V⟩)|apply sY ()|(apply sZ ();clear V;intro bk w V)|fail)
 exact Ke rfl V rfl N.h Y Y ⟨_,rfl,rfl,V.drop⟩
theorem bH {S M} (w) (V:St S M w) (hG:Bu S) (vl l) (hl:RSl S vl l) (h1:l.length=1):
  Ac prog 81 [vl] w fun v w'=>v=Cu (Cg l)∧St S M w':=by
 unfold Ac;have h11:1≤l.length∧l.length≤1:=by omega
 have h0l:0 < l.length:=by omega
 clear h1;have hd:=hl.dgs (l[0]'h0l) (List.getElem_mem h0l)
 have hE:Hid (Cg l=DF (l[0]'h0l)):=Lib.hid (by
  obtain ⟨d,rfl⟩:=List.length_eq_one_iff.1 (show l.length=1 by omega);rfl)
 go_enter func81,ntmps81;repeat' (first|(apply tS ();refine Gx V rfl N.h Y X Y IK ?_;clear V;intro w V<;>apply nZ ()<;>(try replace V:=nH V))|(apply O ();go_step)|(apply kc ();refine sc (We _ V hG l[0] hd) ?_;clear V;rintro v w ⟨rfl,V⟩)|apply sY ()|apply sP ()|(apply sJ ();intro v L)|(apply sZ ();clear V;intro bk w V)|fail)
 exact Ke rfl V rfl N.h Y Y ⟨_,rfl,by rw [hE.out],V.drop⟩
theorem PV:∀ (m:Nat) {S M} (w:World) (_hst:St S M w) (_hG:Bu S) (vl:Value) (l:List Dg) (_hl:RSl S vl l) (_hm:l.length≤m) (_hm2:m≤1048576),
  Ac prog 81 [vl] w fun v w'=>v=Cu (Cg l)∧St S M w':=by
 intro m
 induction m with
 | zero=>exact fun w V hG vl l hl h0 h1=>R1 w V hG vl l hl (by omega)
 | succ m ih =>
  intro S M w V hG vl l hl hm hm2;by_cases h0:l.length=0
  ·exact R1 w V hG vl l hl h0
  ·by_cases h1:l.length=1
   ·exact bH w V hG vl l hl h1
   ·have h2:2≤l.length:=by omega
    obtain ⟨hs1,hs2⟩:=Cs h2;have hE:=Lib.hid (OP h2);have hlen1:(l.take (Av l.length)).length≤m:=by rw [List.length_take];omega
    have hlen2:(l.drop (Av l.length)).length≤m:=by rw [List.length_drop];omega
    have hsp:=fun {S M} (w:World) (V:St S M w)=>N0 w V l.length h2 (by omega)
    have hl20:l.length≤1048576:=by omega
    have e9:(l.drop (Av l.length)).take (l.length - Av l.length)=l.drop (Av l.length):=List.take_of_length_le (by rw [List.length_drop];exact Nat.le_refl _);have E9:=Lib.hid e9;clear h0 h1 e9;generalize hk:Av l.length=k at *;have Hk:=Lib.hid hk;clear hk;unfold Ac;go_enter func81,ntmps81;repeat' (first|(apply O ();go_step)|(apply kc ();refine sc (hsp _ V) ?_;clear V;rintro v w ⟨rfl,V⟩)|apply sY ()|(apply sZ ();clear V;intro bk w V)|fail)
    refine AD V kr ?_;clear V;intro ops;apply nZ ();refine td 0 rfl ?_;refine td 1 rfl ?_;refine td 2 rfl ?_
    ((refine BN 3 rfl kr rfl rfl (fun w V=>F9 (a:=0) (b:=k) X hl Y Y (.inl ⟨rfl,rfl⟩) (.inr ⟨.i64,by simp [Ai,AV]⟩) (.inr ⟨.i64,k,by simp [Ai,AV],by omega,by omega,rfl⟩) (by omega) (by omega) ) ?_;rintro  v3 hv3))<;>apply nZ ()
    (refine AQ 4 rfl kr rfl (fun S' M' w hS hM V=>ih w V (hG.mono hS) v3 (l.take k) (hv3.mono hS) hlen1 (by omega)) Y rfl ?_)<;>apply nZ ()
    refine td 5 rfl ?_;refine td 6 rfl ?_;refine td 7 rfl ?_;refine td 8 rfl ?_
    ((refine BN 9 rfl kr rfl rfl (fun w V=>F9 (a:=k) (b:=l.length) X hl Y Y (.inr ⟨.i64,by simp [Ai,AV]⟩) (.inr ⟨.i64,by simp [Ai,AV]⟩) (.inr ⟨.i64,l.length,by simp [Ai,AV],by omega,by omega,rfl⟩) (by omega) (by omega) ) ?_;rintro  v9 hv9))<;>apply nZ ()
    (refine AQ 10 rfl kr rfl (fun S' M' w hS hM V=>ih w V (hG.mono hS) v9 (l.drop k) (by have:=hv9.mono hS;rwa [E9.out] at this) hlen2 (by omega)) Y rfl ?_)<;>apply nZ ()
    (refine AQ 11 rfl kr rfl (fun S' M' w hS hM V=>Ob w V (hG.mono hS) _ _ (CA _) (CA _)) Y rfl ?_)<;>apply nZ ()
    refine AP 12 rfl kr ?_;intro w V K G;(refine Gx V rfl N.h Y X Y IK ?_);clear V;intro w V;apply nZ ();(try replace V:=nH V);refine Bb G V ?_;clear V G K;(try clear w);apply nZ ();refine AJ kr ?_;clear ops;intro w V;repeat' (first|(apply O ();go_step)|fail)
    exact Ke rfl V rfl N.h Y Y ⟨_,rfl,by rw [hE.out],V.drop⟩
end Go.Proofs.YtmmbidoldegemaaGreatDoor
