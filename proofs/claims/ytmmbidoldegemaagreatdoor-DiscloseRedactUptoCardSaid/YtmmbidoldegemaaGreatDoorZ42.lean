/- Part 43 of a proof; no conditions. -/
import Derived.Test.YtmmbidoldegemaaGreatDoorZ37
set_option linter.all false
set_option maxRecDepth 8000
set_option maxHeartbeats 8000000
namespace Go.Proofs.YtmmbidoldegemaaGreatDoor
open Go.RowKit Go.Sl Go.Proofs.Tryz
def fS (a b:Int×Int):Prop:=a.1 < b.1∨(a.1=b.1∧a.2 < b.2)
def H0 (l:List Ev) (i j:Nat) (ps:List (Int×Int)):Prop :=
 ps.Pairwise fS∧∀ p∈ps,0≤p.1∧0≤p.2∧(p.1 < (i:Int)∨(p.1=(i:Int)∧p.2 < (j:Int)))∧∃ e,l[p.1.toNat]? = some e∧p.2 < (e.2.2.1.length:Int)
theorem bQ {l}:H0 l 0 0 []:=⟨List.Pairwise.nil,fun p L=>absurd L List.not_mem_nil⟩
theorem YI {l i j ps} (h:H0 l i j ps):H0 l i (j+1) ps :=
 ⟨h.1,fun p L=>by obtain ⟨a,b,c,d⟩:=h.2 p L;exact ⟨a,b,by omega,d⟩⟩
theorem YH {l i j ps} (h:H0 l i j ps):H0 l (i+1) 0 ps :=
 ⟨h.1,fun p L=>by obtain ⟨a,b,c,d⟩:=h.2 p L;exact ⟨a,b,by omega,d⟩⟩
theorem YG {l i j ps} (h:H0 l i j ps) (hi:i < l.length) (hj:j < (l[i]).2.2.1.length):H0 l i (j+1) (ps++[((i:Int),(j:Int))]):=by
 refine ⟨List.pairwise_append.2 ⟨h.1,List.pairwise_singleton _ _,fun a ha b hb=>?_⟩,fun p L=>?_⟩
 ·rw [List.mem_singleton] at hb;subst hb;obtain ⟨h1,h2,h3,_⟩:=h.2 a ha;rcases h3 with h3|⟨h3,h4⟩
  ·exact .inl h3
  ·exact .inr ⟨h3,h4⟩
 ·rcases List.mem_append.1 L with L|L
  ·obtain ⟨a,b,c,d⟩:=h.2 p L;exact ⟨a,b,by omega,d⟩
  ·rw [List.mem_singleton] at L;subst L;refine ⟨by show (0:Int)≤(i:Int);omega,by show (0:Int)≤(j:Int);omega,.inr ⟨rfl,by show (j:Int) < ((j+1:Nat):Int);omega⟩,l[i],?_,by show (j:Int) < _;omega⟩;show l[((i:Int)).toNat]? = _;rw [Int.toNat_natCast,List.getElem?_eq_getElem hi]
theorem iD {S} {a b:Nat} (ha:a≤1000) (hb:b≤1000):RL S [.int .i64 (a:Int),.int .i64 (b:Int)] [((a:Int),(b:Int))]:=RL.one_mk (x:=(((a:Int),(b:Int)):Int×Int)) (by refine ⟨rfl,⟨rfl,?_⟩,⟨rfl,?_⟩⟩<;>(show Au _;unfold Au;omega))
set_option maxRecDepth 20000 in
theorem i6 {S M} (w) (V:St S M w) (vl l) (hl:RSl S vl l) (hm:l.length≤1000) (hp8:∀ e∈l,e.2.2.1.length≤8) (pk:UInt32):
  Ac prog 17 [vl,.int .u32 (pk.toNat:Int)] w fun v w'=>∃ S' so,∃ ps:List (Int×Int),S.Le S'∧v=Ar so∧RSl S' (Ar so) ps∧H0 l l.length 0 ps∧ps.length≤8 * l.length∧St S' M w':=by
 unfold Ac;go_enter func17,ntmps17;replace V:=V.nil 57 2;repeat' (first|(apply O ();go_step)|apply sY ()|fail)
 go_loopw [1,5,11] (fun u1 u5 u11 wr=>∃ (i n:Nat) (pk:UInt32) (T:Ad) (ao:Option Addr) (ko:Nat) (co:List Value) (ps:List (Int×Int)),i≤l.length∧n≤8 * i∧S.Le T∧u1=.int .u32 (pk.toNat:Int)∧u5=.slice ao n ko∧u11=.int .i64 (i:Int)∧Hid (H0 l i 0 ps)∧Hid (n=ps.length)∧RL T co ps∧St T (.sl (.slice ao n ko) 57 2 n co::M) wr) (fun _ _ v _=>l.length - (intOf v).toNat)
 case atStart=>exact ⟨0,0,pk,S,none,0,[],[],Nat.zero_le _,by omega,Ad.Le.refl S,rfl,rfl,rfl,Lib.hid bQ,Lib.hid rfl,RL.nil,V⟩
 case round =>
  clear V;obtain ⟨i,n,pk,T,ao,ko,co,ps,hi2,hn8,hT,rfl,rfl,rfl,HP,HN,hC,V⟩:=hrel;have hone:=BE (k:=0) V rfl;have hl:=hl.mono hT;by_cases hlt:i < l.length
  ·have hpl:=hp8 _ (List.getElem_mem hlt);repeat' ((apply ZZ 5);first|(apply tS ();refine I4 V rfl N.h X Ak Y rfl rfl ?_;clear V;intro w V<;>apply nZ ()<;>(try replace V:=nH V))|(apply O ();go_step)|(apply tL ();refine An V (Aw X Ak Y) ?_;rintro v ⟨cl,rfl,hcl⟩<;>apply nZ ())|(apply sJ ();intro v L)|(apply sZ ();clear V;intro bk w V)|fail)
   have hst0:=V;clear V;obtain ⟨S3,hS3,V,hpv⟩:=AC (α:=Ev) hst0 hcl (Z.len hcl);clear hst0 hcl;generalize Value.pointer (some ⟨bk,0,none⟩)=pV at *;replace hC:=hC.mono hS3;repeat' ((apply ZZ 6);first|(apply O ();go_step)|(apply tL ();refine An V (Aj X Ak Y) ?_;rintro v ⟨hvl,hv1⟩<;>apply nZ ())|apply sY ()|(apply sJ ();intro v L)|fail)
   go_loopw [1,5,19] (fun u1 u5 u19 wr=>∃ (j n:Nat) (pk:UInt32) (ao:Option Addr) (ko:Nat) (co:List Value) (ps:List (Int×Int)),j≤(l[i]).2.2.1.length∧n≤8 * i+j∧u1=.int .u32 (pk.toNat:Int)∧u5=.slice ao n ko∧u19=.int .i64 (j:Int)∧Hid (H0 l i j ps)∧Hid (n=ps.length)∧RL S3 co ps∧St S3 (.sl (.slice ao n ko) 57 2 n co::M) wr) (fun _ _ v _=>(l[i]).2.2.1.length - (intOf v).toNat)
   case atStart=>exact ⟨0,n,pk,ao,ko,co,ps,Nat.zero_le _,by omega,rfl,rfl,rfl,HP,HN,hC,V⟩
   case round =>
    clear V HP HN hC hone;rename_i i0 hlt0;obtain ⟨j,n,pk,ao,ko,co,ps,hj2,hn8,rfl,rfl,rfl,HP,HN,hC,V⟩:=hrel;have hone:=BE (k:=0) V rfl;by_cases hjl:j < (l[i]).2.2.1.length
    ·obtain ⟨z,hz⟩:∃ z,(bits .and .u32 (((shr pk (n % 32)).toNat:Int)) 1 == 1)=z:=⟨_,rfl⟩
     have hsn:=Lib.hid (YG HP.out hlt hjl);have hmo:=Lib.hid (YI HP.out)
     cases z with
     | true =>
      repeat' (first|(apply tB ();refine Ag V (by exact IF rfl rfl Af) ?_<;>apply nZ ())|(apply tU ();refine Ag V (by exact OV Y Y Y rfl rfl (by simp only [List.map_cons,List.map_nil,Ai,AV];rfl) (by simp [Value.cells])) ?_<;>apply nZ ())|apply sK ()|(apply O ();go_step)|apply sY ()|fail)
      refine Ay (vs:=[(.agg #[.int .i64 (i:Int),.int .i64 (j:Int)])]) V Y Y rfl rfl (by simp [Value.cells]) rfl (by omega) (by omega) ?_;clear V;intro u w V;refine nY ?_;apply uC ();clear V;intro v' w V;refine nY ?_;(try replace V:=nH V);replace V:=V.drop;obtain ⟨ay,cy,hso⟩:=Go.Sl.sl_formk (k:=0) V rfl;subst hso;apply nZ ();repeat' (first|(apply O ();go_step)|fail)
      go_roundw
      case rel=>exact ⟨j+1,n+1,pk,ay,cy,_,ps++[((i:Int),(j:Int))],by omega,by omega,rfl,rfl,by go_num,hsn,Lib.hid (by rw [List.length_append,← HN.out];rfl),hC.append (iD (by omega) (by omega)),V.sub⟩
      case measure=>simp [intOf];omega
     | false =>
      repeat' (first|(apply tB ();refine Ag V (by first|exact N6 rfl rfl|exact Mt rfl rfl Af|exact IF rfl rfl Af) ?_<;>apply nZ ())|apply sK ()|(apply O ();go_step)|apply sY ()|fail)
      go_roundw
      case rel=>exact ⟨j+1,n,_,ao,ko,co,ps,by omega,by omega,rfl,rfl,by go_num,hmo,HN,hC,V.sub⟩
      case measure=>simp [intOf];omega
    ·obtain rfl:j=(l[i]).2.2.1.length:=by omega
     repeat' (first|(apply O ();go_step)|fail)
     go_roundw
     case rel=>exact ⟨i+1,n,pk,S3,ao,ko,co,ps,by omega,by omega,hT.trans hS3,rfl,rfl,by go_num,Lib.hid (YH HP.out),HN,hC,V.sub⟩
     case measure=>simp [intOf];omega
  ·obtain rfl:i=l.length:=by omega
   obtain ⟨S2,hS2,hst2,hx⟩:=St.freeze (α:=Int×Int) V hC HN.out;have hps:=HP.out;have hnn:=HN.out;clear V;have V:=hst2;clear hst2;repeat' (first|(apply O ();go_step)|fail)
   go_ret;exact ⟨_,rfl,S2,(ao,n,ko),ps,hT.trans hS2,rfl,hx,hps,by omega,V⟩
instance oK:MapT prog 83 57 4:=⟨underlying83⟩
instance Ix:FlatC (Int×Int) Bi:=⟨fun {S cs x} h=>by
 obtain ⟨hl,h1,h2⟩:=h;have hl':cs.length=2:=hl
 match cs,hl' with
 | [a,b],_ =>
  have f1:a=_:=(List.cons.inj h1.1).1;have f2:b=_:=(List.cons.inj h2.1).1;rw [f1,f2];rfl⟩
theorem MY (x):Instr.sameBits 10000 (.agg (Bi x).toArray) (.agg (Bi x).toArray)=true:=by
 unfold Bi;simp [Instr.sameBits]
theorem Lx {α:Type} [Z α] {S v} {xs:List α} (h:RSl S v xs) {i} (hi:i < xs.length):∃ cs,Z.R S cs xs[i]:=by
 apply jA ()
theorem RA {α:Type} (q) (xs:List α) {i} (h):(xs.take (i+1)).filter q=if q xs[i]=true then (xs.take i).filter q++[xs[i]] else (xs.take i).filter q:=by
 rw [List.take_succ_eq_append_getElem h,List.filter_append];by_cases hq:q xs[i]=true
 ·rw [if_pos hq,List.filter_cons_of_pos hq,List.filter_nil]
 ·rw [if_neg hq,List.filter_cons_of_neg hq,List.filter_nil,List.append_nil]
def JZ (kvs:List ((Int×Int)×Value)) (xs:List (Int×Int)):Prop:=∀ k,BD kvs k=if k∈xs then some (.bool true) else none
theorem Zf:JZ [] []:=fun k=>by rw [Jc];simp
theorem Ze {kvs xs x} (h:JZ kvs xs) (hx:x ∉ xs):JZ (kvs++[(x,.bool true)]) (xs++[x]):=fun k=>by
 rw [Nr,h k];by_cases h1:k∈xs
 ·simp [h1]
 ·by_cases h2:k=x
  ·simp [h1,h2,hx]
  ·simp [h1,h2]
theorem Zd {kvs xs x} (h:JZ kvs xs) (hx:x∈xs):JZ (Ez kvs x (.bool true)) (xs++[x]):=fun k=>by
 rw [Mb,h x,h k];by_cases h2:k=x
 ·simp [h2,hx]
 ·by_cases h1:k∈xs<;>simp [h1,h2]
def PZ (ev:Cz) (ks:List (Int×Int)):Cz:=(ev.1,ev.2.1,ev.2.2.1.filter (fun p=>decide (kP p∈ks)),())
abbrev NU (S:Ad) (M:List J) (x:Cz) (v:Value) (w:World):Prop:=∃ S' cs,S.Le S'∧v=.agg cs.toArray∧Z.R S' cs x∧St S' M w
theorem WD {a0 a1 a2 a3 a4 a5 a6 a7 a8 a9 c0 c1 c2 c3 c4 c5 S cl} {hs:List Hd} {ps} (h:Z.R S cl (((⟨[a0,a1,a2,a3,a4,a5,a6,a7,a8,a9,c0,c1,c2,c3,c4,c5]⟩:Dg),hs,ps,()):Cz)):
  ∃ ua un uc pa pn pc,cl=KB a0 a1 a2 a3 a4 a5 a6 a7 a8 a9 c0 c1 c2 c3 c4 c5 (.slice ua un uc) (.slice pa pn pc)∧RSl S (.slice ua un uc) hs∧RSl S (.slice pa pn pc) ps:=by
 obtain ⟨hl,h1,h2⟩:=h;obtain ⟨hl2,h3,h4⟩:=h2;obtain ⟨hl3,h5,h6⟩:=h4;obtain ⟨v1,e1,i1⟩:=h3;obtain ⟨v2,e2,i2⟩:=h5
 have hs1:∀ {α:Type} [Z α] {v:Value} {xs:List α},RSl S v xs→∃ a n c,v=.slice a n c:=by
  intro α _ v xs h9;apply js ()
 obtain ⟨ua,un,uc,rfl⟩:=hs1 i1;obtain ⟨pa,pn,pc,rfl⟩:=hs1 i2;refine ⟨ua,un,uc,pa,pn,pc,?_,i1,i2⟩;have e0:=(FlatC.flat (cells:=fun d:Dg=>u8s d.l) h1:cl.take 16=_)
 have hz1:Z.z Dg=16:=rfl
 have hcl:cl=cl.take 16++(((cl.drop 16).take 1)++(((cl.drop 16).drop 1).take 1++((cl.drop 16).drop 1).drop 1)):=by
  rw [List.take_append_drop,List.take_append_drop,List.take_append_drop]
 have hl':cl.length=18:=hl;have h18:((cl.drop 16).drop 1).drop 1=[]:=List.drop_eq_nil_of_le (by simp;omega);have e1':(cl.drop 16).take 1=[.slice ua un uc]:=e1;have e2':((cl.drop 16).drop 1).take 1=[.slice pa pn pc]:=e2;rw [hcl,e0,e1',e2',h18];rfl
theorem PY {S M} (w) (V:St S M w) (cs ev) (hR:Z.R S cs ev) (vk ks) (hk:RSl S vk ks) (hm:ev.2.2.1.length≤1000000) (hm2:ks.length≤1048576):
  Ac prog 13 [.agg cs.toArray,vk] w (NU S M (PZ ev ks)):=by
 unfold Ac;obtain ⟨m,hs,ps,⟨⟩⟩:=ev;have hm16:m.l.length=16:=hR.2.1.1;obtain ⟨a0,a1,a2,a3,a4,a5,a6,a7,a8,a9,c0,c1,c2,c3,c4,c5,rfl⟩:=QT hm16;obtain ⟨ua,un,uc,pa,pn,pc,rfl,hu,L⟩:=WD hR;unfold PZ;simp only at hm ⊢;obtain ⟨R,hRR⟩:∃ R,ps.filter (fun p=>decide (kP p∈ks))=R:=⟨_,rfl⟩
 rw [hRR];have HR:=Lib.hid hRR;clear hRR hR;go_enter func13,ntmps13;repeat' ((apply ZZ 1);first|(apply O ();go_step)|(apply sC ();clear V;intro bx w V)|(apply sZ ();clear V;intro bk w V)|fail)
 rename Nat=>bz
 refine wp_region_lit ?_;refine KQ V ?_;clear V;intro bm w V;apply nZ ();repeat' (first|(apply O ();go_step)|apply sY ()|fail)
 go_loopw [14] (fun u14 wr=>∃ (i clock:Nat) (es:Array MapEntry) (kvs:List ((Int×Int)×Value)),i≤ks.length∧u14=.int .i64 (i:Int)∧Hid (JZ kvs (ks.take i))∧BS S es.toList kvs∧St S (.obj bm (.map es clock)::.box bz Gm 27::.box bx (KB a0 a1 a2 a3 a4 a5 a6 a7 a8 a9 c0 c1 c2 c3 c4 c5 (.slice ua un uc) (.slice pa pn pc)) 27::M) wr) (fun v _=>ks.length - (intOf v).toNat)
 case atStart=>exact ⟨0,0,#[],[],Nat.zero_le _,rfl,Lib.hid Zf,trivial,V⟩
 case round =>
  clear V;obtain ⟨i,clock,es,kvs,hi,rfl,HK,hmap,V⟩:=hrel;by_cases hlt:i < ks.length
  ·have hsn:Hid (ks.take (i+1)=ks.take i++[ks[i]]):=Lib.hid (by rw [List.take_succ_eq_append_getElem hlt]);obtain ⟨ck,hck⟩:=Lx hk hlt;have hck2:Z.R S (Bi ks[i]) ks[i]:=by rw [← Ix.flat hck];exact hck
   have hat:=HK.out ks[i];repeat' ((apply ZZ 5);first|(apply O ();go_step)|apply sP ()|(apply sJ ();intro v L)|(apply sZ ();clear V;intro bk w V)|fail)
   simp only [Bi];repeat' ((apply ZZ 5);first|(apply O ();go_step)|(apply sT ();clear V;intro w V)|fail)
   refine wp_region_lit ?_;repeat' (first|(apply O ();go_step)|(apply tL ();refine Ag V (by exact BB X N.h Y FS) ?_<;>apply nZ ())|fail)
   by_cases hin:ks[i]∈ks.take i
   ·rw [if_pos hin] at hat;refine IC (cells:=Bi) V X rfl X Ix Y Y kr Y Y hmap hck2 hat (MY _) ?_;clear V;intro es' w hmap' V;apply nZ ();(try replace V:=nH V);repeat' (first|(apply O ();go_step)|fail)
    go_roundw
    case rel=>exact ⟨i+1,clock,es',_,by omega,by go_num,Lib.hid (by rw [hsn.out];exact Zd HK.out hin),hmap',V.drop⟩
    case measure=>simp [intOf];omega
   ·rw [if_neg hin] at hat;refine GM (x:=ks[i]) (cs:=Bi ks[i]) V X rfl X Y Y kr Y Y hmap hck2 hat ?_;clear V;intro es' w hmap' V;apply nZ ();(try replace V:=nH V);repeat' (first|(apply O ();go_step)|fail)
    go_roundw
    case rel=>exact ⟨i+1,clock+1,es',_,by omega,by go_num,Lib.hid (by rw [hsn.out];exact Ze HK.out hin),hmap',V.drop⟩
    case measure=>simp [intOf];omega
  ·obtain rfl:i=ks.length:=by omega
   rw [List.take_length] at HK;have hkept:=Lib.hid HK.out;clear HK;replace V:=V.nil 63 4;repeat' (first|(apply O ();go_step)|apply sY ()|fail)
   go_loopw [8,24] (fun u8 u24 wr=>∃ (i n:Nat) (ao:Option Addr) (ko:Nat) (co:List Value),i≤ps.length∧n≤i∧u8=.slice ao n ko∧u24=.int .i64 (i:Int)∧Hid (n=((ps.take i).filter (fun p=>decide (kP p∈ks))).length)∧RL S co ((ps.take i).filter (fun p=>decide (kP p∈ks)))∧St S (.sl (.slice ao n ko) 63 4 n co::.obj bm (.map es clock)::.box bz Gm 27::.box bx (KB a0 a1 a2 a3 a4 a5 a6 a7 a8 a9 c0 c1 c2 c3 c4 c5 (.slice ua un uc) (.slice pa pn pc)) 27::M) wr) (fun _ v _=>ps.length - (intOf v).toNat)
   case atStart=>exact ⟨0,0,none,0,[],Nat.zero_le _,by omega,rfl,rfl,Lib.hid rfl,RL.nil,V⟩
   case round =>
    clear V;obtain ⟨i,n,ao,ko,co,hi,hni,rfl,rfl,hnl,hC,V⟩:=hrel;have hone:=BE (k:=0) V rfl;by_cases hlt:i < ps.length
    ·have hsn:=RA (fun p:Pn=>decide (kP p∈ks)) ps hlt;have hat:=hkept.out (kP ps[i]);obtain ⟨cq,hcq⟩:=Lx L hlt;have hRk:Z.R S (Bi (kP ps[i])) (kP ps[i]):=Df (CK hcq).choose_spec.2.2.1 (CK hcq).choose_spec.2.2.2.1;clear hcq cq;by_cases hin:kP ps[i]∈ks
     ·rw [decide_eq_true hin,if_pos rfl] at hsn;rw [if_pos hin] at hat;have hsn:=Lib.hid hsn;clear hin;repeat' ((apply ZZ 11);first|(apply tS ();refine I4 V rfl N.h X Ak Y rfl rfl ?_;clear V;intro w V<;>apply nZ ()<;>(try replace V:=nH V))|(apply O ();go_step)|(apply tL ();refine An V (Aw X Ak Y) ?_;rintro v ⟨cl,rfl,hcl⟩<;>apply nZ ())|(apply sJ ();intro v L)|(apply sZ ();clear V;intro bk w V)|fail)
      refine wp_region_lit ?_;repeat' (first|(apply O ();go_step)|fail)
      have hclx:=hcl;obtain ⟨sx,rfl,hx0,hx1,hx2,hx3⟩:=CK hcl;clear hcl;rw [show Z.agg Pn=true from rfl];apply nZ ();have cP:=fun {M} w (V:St S M w)=>Dx w V _ _ hclx
      repeat' (first|(with_reducible (refine Ag V (CB (x:=kP ps[i]) (cs:=Bi (kP ps[i])) X rfl Y Y kr Y Y Y hmap hRk false) ?_;simp only [Bool.false_eq_true,if_false,hat,Option.getD_some,Option.getD_none,Ap])<;>apply nZ ())|(apply O ();go_step)|(apply kc ();refine sc (cP _ V) ?_;clear V;rintro v w ⟨rfl,V⟩)|(apply tL ();refine Ag V (by exact BB X N.h Y FS) ?_<;>apply nZ ())|fail)
      refine Ay (vs:=[(.agg #[.int .i64 ps[i].1,.int .i64 ps[i].2.1,.int .i64 ps[i].2.2.1,.slice sx.1 sx.2.1 sx.2.2])]) V Y Y rfl rfl (by simp [Value.cells]) rfl (by omega) (by omega) ?_;clear V;intro u w V;refine nY ?_;apply uC ();clear V;intro v' w V;refine nY ?_;(try replace V:=nH V);replace V:=V.drop;obtain ⟨ay,cy,rfl⟩:=Go.Sl.sl_formk (k:=1) V rfl;apply nZ ();repeat' (first|(apply O ();go_step)|fail)
      go_roundw
      case rel=>exact ⟨i+1,n+1,ay,cy,_,by omega,by omega,rfl,by go_num,Lib.hid (by rw [hsn.out,List.length_append,hnl.out];rfl),by rw [hsn.out];exact hC.append (RL.one_mk hclx),V.drop⟩
      case measure=>simp [intOf];omega
     ·rw [decide_eq_false hin,if_neg (by decide)] at hsn;rw [if_neg hin] at hat;have hsn:=Lib.hid hsn;clear hin;repeat' ((apply ZZ 11);first|(apply tS ();refine I4 V rfl N.h X Ak Y rfl rfl ?_;clear V;intro w V<;>apply nZ ()<;>(try replace V:=nH V))|(apply O ();go_step)|(apply tL ();refine An V (Aw X Ak Y) ?_;rintro v ⟨cl,rfl,hcl⟩<;>apply nZ ())|(apply sJ ();intro v L)|(apply sZ ();clear V;intro bk w V)|fail)
      refine wp_region_lit ?_;repeat' (first|(apply O ();go_step)|fail)
      have hclx:=hcl;obtain ⟨sx,rfl,hx0,hx1,hx2,hx3⟩:=CK hcl;clear hcl;rw [show Z.agg Pn=true from rfl];apply nZ ();have cP:=fun {M} w (V:St S M w)=>Dx w V _ _ hclx
      repeat' (first|(with_reducible (refine Ag V (CB (x:=kP ps[i]) (cs:=Bi (kP ps[i])) X rfl Y Y kr Y Y Y hmap hRk false) ?_;simp only [Bool.false_eq_true,if_false,hat,Option.getD_some,Option.getD_none,Ap])<;>apply nZ ())|(apply O ();go_step)|(apply kc ();refine sc (cP _ V) ?_;clear V;rintro v w ⟨rfl,V⟩)|(apply tL ();refine Ag V (by exact BB X N.h Y FS) ?_<;>apply nZ ())|fail)
      go_roundw
      case rel=>exact ⟨i+1,n,ao,ko,co,by omega,by omega,rfl,by go_num,Lib.hid (by rw [hsn.out,hnl.out]),by rw [hsn.out];exact hC,V.drop⟩
      case measure=>simp [intOf];omega
    ·obtain rfl:i=ps.length:=by omega
     rw [List.take_length,HR.out] at hC hnl;obtain rfl:=hnl.out;obtain ⟨S2,hS2,hst2,hx⟩:=St.freeze (α:=Pn) V hC rfl;clear V;have V:=hst2;clear hst2;have hmap:=hmap.mono hS2;repeat' (first|(apply O ();go_step)|(apply tL ();refine Ag V (by exact BB X N.h Y FS) ?_<;>apply nZ ())|apply sY ()|(apply sT ();clear V;intro w V)|fail)
     refine GP rfl (AZ V rfl _ N.h Y rfl rfl) ?_;(try simp only [AV,List.drop_zero,List.drop_succ_cons,List.take_succ_cons,List.take_zero,AB,Ap]);have hRx:Z.R S2 (KB a0 a1 a2 a3 a4 a5 a6 a7 a8 a9 c0 c1 c2 c3 c4 c5 (.slice ua un uc) (.slice ao R.length ko)) (((⟨[a0,a1,a2,a3,a4,a5,a6,a7,a8,a9,c0,c1,c2,c3,c4,c5]⟩:Dg),hs,R,()):Cz):=AG (BL hm16) (AG (cs:=[_]) ⟨_,rfl,hu.mono hS2⟩ (AG (cs:=[_]) ⟨_,rfl,hx⟩ CM));exact ⟨_,rfl,S2,_,hS2,rfl,hRx,V.drop.drop.drop⟩
def DK (p:Pn):Int:=p.2.2.1
def C1 (ps:List Pn) (k:Int×Int):List Int:=(ps.filter fun p=>decide (kP p=k)).map DK
def IJ (a:List Pn):List Pn→List Pn→Option (List Pn)
 | [],out=>some out
 | p::r,out=>if (C1 a (kP p)).any (fun n=>decide (n≠DK p))=true then none else IJ a r (if C1 a (kP p)=[] then out++[p] else out)
def JC:Cz:=(⟨[0,0,0,0,0,0,0,0,0,0,0,0,0,0,0,0]⟩,[],[],())
def Ep (x y:Cz):Cz×Int :=
 if x.1=y.1∧x.2.1=y.2.1 then
  match IJ x.2.2.1 y.2.2.1 x.2.2.1 with
  | none=>(JC,15)
  | some out=>((x.1,x.2.1,Srt.sortR kP out,()),0)
 else (JC,15)
theorem E0 (ps p k):C1 (ps++[p]) k=if kP p=k then C1 ps k++[DK p] else C1 ps k:=by
 unfold C1;rw [List.filter_append];by_cases h:kP p=k
 ·rw [if_pos h,List.filter_cons_of_pos (by simpa using h),List.filter_nil,List.map_append];rfl
 ·rw [if_neg h,List.filter_cons_of_neg (by simpa using h),List.filter_nil,List.append_nil]
theorem OD (ps k):(C1 ps k).length≤ps.length:=by
 unfold C1;rw [List.length_map];exact List.length_filter_le _ _
structure Dr where
 k:Int×Int
 ad:Option Addr
 cap:Nat
 xs:List Int
abbrev Dr.v (e:Dr):Value:=.slice e.ad e.xs.length e.cap
abbrev BR (e:Dr):J:=.sl e.v 3 1 e.xs.length (cF Ba e.xs)
def EV (es:List Dr):List ((Int×Int)×Value):=es.map fun e=>(e.k,e.v)
structure HY (es:List Dr) (ps:List Pn):Prop where
 nd:(es.map (·.k)).Nodup
 xs:∀ e∈es,e.xs=C1 ps e.k∧e.xs≠[]
 al:∀ k,C1 ps k≠[]→∃ e∈es,e.k=k
theorem eH:HY [] []:=⟨List.nodup_nil,fun e h=>(by cases h),fun k h=>(h rfl).elim⟩
theorem Y9 {es k} (h:∀ e∈es,e.k≠k):BD (EV es) k=none:=by
 induction es with
 | nil=>rfl
 | cons e es ih =>
  show BD ((e.k,e.v)::EV es) k=none;rw [C7,if_neg (fun x=>h e List.mem_cons_self x.symm)];exact ih fun e' he=>h e' (List.mem_cons_of_mem _ he)
theorem HY.no {es ps k} (h:HY es ps) (hk:C1 ps k=[]):BD (EV es) k=none:=by
 refine Y9 fun e he ek=>?_
 have:=h.xs e he;rw [ek,hk] at this;exact this.2 this.1
theorem Sk (a b):EV (a++b)=EV a++EV b:=by unfold EV;rw [List.map_append]
theorem Wf:∀ {l1:List Dr} {e:Dr} {l2:List Dr},(∀ x∈l1,x.k≠e.k)→BD (EV (l1++e::l2)) e.k=some e.v∧∀ v,Ez (EV (l1++e::l2)) e.k v=EV l1++(e.k,v)::EV l2
 | [],e,l2,_=>by
  constructor
  ·show BD ((e.k,e.v)::EV l2) e.k=_;rw [C7,if_pos rfl]
  ·intro v;show Ez ((e.k,e.v)::EV l2) e.k v=_;rw [Ez,if_pos rfl];rfl
 | x::l1,e,l2,h=>by
  have ih:=Wf (l1:=l1) (e:=e) (l2:=l2) fun y hy=>h y (List.mem_cons_of_mem _ hy)
  have hx:=h x List.mem_cons_self;constructor
  ·show BD ((x.k,x.v)::EV (l1++e::l2)) e.k=_;rw [C7,if_neg (fun y=>hx y.symm),ih.1]
  ·intro v;show Ez ((x.k,x.v)::EV (l1++e::l2)) e.k v=_;rw [Ez,if_neg (fun y=>hx y.symm),ih.2 v];rfl
theorem HY.yes {es ps k} (h:HY es ps) (hk:C1 ps k≠[]):
  ∃ l1 e l2,es=l1++e::l2∧e.k=k∧e.xs=C1 ps k∧BD (EV es) k=some e.v∧∀ v,Ez (EV es) k v=EV l1++(k,v)::EV l2:=by
 obtain ⟨e,he,ek⟩:=h.al k hk;obtain ⟨l1,l2,rfl⟩:=List.append_of_mem he;have hn:=h.nd;rw [List.map_append,List.map_cons,List.nodup_append] at hn;have hl:∀ x∈l1,x.k≠e.k:=fun x hx ex=>hn.2.2 x.k (List.mem_map_of_mem hx) e.k List.mem_cons_self ex
 have:=Wf (l1:=l1) (e:=e) (l2:=l2) hl;rw [ek] at this;exact ⟨l1,e,l2,rfl,ek,by rw [(h.xs e he).1,ek],this.1,this.2⟩
theorem HY.new {es ps p} (h:HY es ps) (hk:C1 ps (kP p)=[]) (ad cap):HY (es++[⟨kP p,ad,cap,[DK p]⟩]) (ps++[p]):=by
 have hne:∀ e∈es,e.k≠kP p:=fun e he ek=>by
  have:=h.xs e he;rw [ek,hk] at this;exact this.2 this.1
 refine ⟨?_,fun e he=>?_,fun k hk2=>?_⟩
 ·rw [List.map_append,List.nodup_append];refine ⟨h.nd,by simp,fun a ha b hb=>?_⟩;obtain ⟨e,he,rfl⟩:=List.mem_map.1 ha;simp only [List.map_cons,List.map_nil,List.mem_singleton] at hb;subst hb;exact hne e he
 ·rcases List.mem_append.1 he with he|he
  ·have:=h.xs e he;rw [E0,if_neg (fun x=>hne e he x.symm)];exact this
  ·obtain rfl:=List.mem_singleton.1 he;show [DK p]=C1 (ps++[p]) (kP p)∧[DK p]≠[];rw [E0,if_pos rfl,hk];exact ⟨rfl,by simp⟩
 ·rw [E0] at hk2;by_cases L:kP p=k
  ·exact ⟨_,List.mem_append_right _ List.mem_cons_self,L⟩
  ·rw [if_neg L] at hk2;obtain ⟨e,he,ek⟩:=h.al k hk2;exact ⟨e,List.mem_append_left _ he,ek⟩
theorem HY.old {l1 l2 e ps p} (h:HY (l1++e::l2) ps) (hk:e.k=kP p) (ad cap):HY (l1++⟨kP p,ad,cap,e.xs++[DK p]⟩::l2) (ps++[p]):=by
 have hn:=h.nd;have hn':=hn;rw [List.map_append,List.map_cons,List.nodup_append] at hn';obtain ⟨n1,n2,n3⟩:=hn';have n4:=(List.nodup_cons.1 n2).1
 have hne:∀ x,x∈l1∨x∈l2→kP p≠x.k:=fun x hx ex=>by
  rcases hx with hx|hx
  ·exact n3 x.k (List.mem_map_of_mem hx) e.k List.mem_cons_self (by rw [hk,ex])
  ·exact n4 (List.mem_map.2 ⟨x,hx,by rw [hk,ex]⟩)
 refine ⟨?_,fun x hx=>?_,fun k hk2=>?_⟩
 ·rw [List.map_append,List.map_cons,← hk];rw [List.map_append,List.map_cons] at hn;exact hn
 ·rcases List.mem_append.1 hx with hx|hx
  ·rw [E0,if_neg (hne x (.inl hx))];exact h.xs x (List.mem_append_left _ hx)
  ·rcases List.mem_cons.1 hx with rfl|hx
   ·show e.xs++[DK p]=C1 (ps++[p]) (kP p)∧_;rw [E0,if_pos rfl,(h.xs e (List.mem_append_right _ List.mem_cons_self)).1,hk];exact ⟨rfl,by simp⟩
   ·rw [E0,if_neg (hne x (.inr hx))];exact h.xs x (List.mem_append_right _ (List.mem_cons_of_mem _ hx))
 ·rw [E0] at hk2;by_cases L:kP p=k
  ·exact ⟨_,List.mem_append_right _ List.mem_cons_self,L⟩
  ·rw [if_neg L] at hk2;obtain ⟨x,hx,ek⟩:=h.al k hk2;rcases List.mem_append.1 hx with hx|hx
   ·exact ⟨x,List.mem_append_left _ hx,ek⟩
   ·rcases List.mem_cons.1 hx with rfl|hx
    ·exact (L (hk.symm.trans ek)).elim
    ·exact ⟨x,List.mem_append_right _ (List.mem_cons_of_mem _ hx),ek⟩
theorem Z6 {α:Type} [Z α] {S v} {xs:List α} (h:RSl S v xs):∃ a n c,v=.slice a n c:=by
 apply jr ()
theorem fE {S v xs} (h:RSl S v xs):∀ x∈xs,Au (DK x):=by
 intro x hx;obtain ⟨i,hi,rfl⟩:=List.getElem_of_mem hx;obtain ⟨cs,hcs⟩:=Lx h hi;exact (CK hcs).choose_spec.2.2.2.2
theorem PW {S:Ad}:∀ {xs:List Int},(∀ x∈xs,Au x)→RL S (cF Ba xs) xs
 | [],_=>RL.nil
 | x::xs,h=>M9 (h x List.mem_cons_self) (PW fun y hy=>h y (List.mem_cons_of_mem _ hy))
theorem On {S:Ad} {w:World}:∀ {es:List Dr} {M:List J},St S (es.map BR++M) w→(∀ e∈es,∀ x∈e.xs,Au x)→∃ S',S.Le S'∧(∀ e∈es,RSl S' e.v e.xs)∧St S' M w
 | [],M,h,_=>⟨S,Ad.Le.refl S,fun e he=>(by cases he),h⟩
 | e::es,M,h,hi=>by
  have h1:St S (es.map BR++(BR e::M)) w:=h.perm (by
   rw [List.map_cons,List.cons_append];exact (List.perm_middle).symm)
  obtain ⟨S1,hS1,hr,h2⟩:=On h1 fun x hx=>hi x (List.mem_cons_of_mem _ hx)
  obtain ⟨S2,hS2,h3,hx⟩:=St.freeze (α:=Int) h2 (PW (hi e List.mem_cons_self)) rfl;refine ⟨S2,hS1.trans hS2,fun x hx2=>?_,h3⟩;rcases List.mem_cons.1 hx2 with rfl|hx2
  ·exact hx
  ·exact (hr x hx2).mono hS2
end Go.Proofs.YtmmbidoldegemaaGreatDoor
namespace Go.Proofs.YtmmbidoldegemaaGreatDoor
open Go.RowKit Go.Sl Go.Srt
def GF (log:List Ev) (r:Int×Int):Prop:=0≤r.1∧0≤r.2∧∃ e,log[r.1.toNat]? = some e∧r.2 < (e.2.2.1.length:Int)
def FB (log:List Ev) (r:Int×Int):Pn :=
 match log[r.1.toNat]? with
 | none=>jp
 | some e=>(r.1,r.2,e.2.2.1.getD r.2.toNat 0,Bk (FM e) r.2.toNat,())
theorem IM {log r} (h:GF log r):kP (FB log r)=r:=by
 obtain ⟨_,_,e,he,_⟩:=h;unfold FB;rw [he];rfl
theorem V7 {log:List Ev}:∀ (rs bf:List (Int×Int)),(∀ r∈rs,GF log r)→rs.Nodup→(∀ r∈rs,r ∉ bf)→FE log bf rs=some (rs.map (FB log))
 | [],bf,_,_,_=>rfl
 | r::rs,bf,h,hn,hb=>by
  obtain ⟨h1,h2,e,he,h3⟩:=h r (.head _);have hl:r.1.toNat < log.length:=(List.getElem?_eq_some_iff.1 he).1;obtain ⟨n1,n2⟩:=List.nodup_cons.1 hn;rw [FE,if_neg (by rintro (g|g|g);exact hb r (.head _) g;omega;omega)];rw [he];simp only
  rw [if_neg (by omega),V7 rs (r::bf) (fun x hx=>h x (.tail _ hx)) n2 (fun x hx hc=>by
   rcases List.mem_cons.1 hc with rfl|hc
   ·exact n1 hx
   ·exact hb x (.tail _ hx) hc)]
  simp only [List.map_cons]
  congr 2
  unfold FB;rw [he]
abbrev EM (m:Dg) (log:List Ev) (i:List (Int×Int)):Cz:=(m,log.map AE,i.map (FB log),())
end Go.Proofs.YtmmbidoldegemaaGreatDoor
namespace Go.Proofs.YtmmbidoldegemaaGreatDoor
open Go.RowKit Go.Sl Go.Proofs.Tryz
theorem gi {S cs y} (hR:Z.R S cs y):FN y:=⟨hR.2.1.1,hR.2.2.2.1.1,hR.2.2.2.2.2.1.2,hR.2.2.2.2.2.2.2.1.1,hR.2.2.2.2.2.2.2.2.2.1.1,hR.2.2.2.2.2.2.2.2.2.2.2.1.2⟩
theorem Lf {S v xs} (h:RSl S v xs):∀ x∈xs,FN x:=by
 intro x hx;obtain ⟨i,hi,rfl⟩:=List.getElem_of_mem hx;rcases h with ⟨ad,cap,rfl,rfl,_⟩|⟨b,o,cap,c,T,fz,rfl,_,_,_,hR⟩
 ·simp at hi
 ·exact gi (hR.2 i _ (List.getElem?_eq_getElem hi))
set_option maxRecDepth 20000 in
theorem QP {S M} (w) (V:St S M w) (va vb) (a b:List Hd) (ha:RSl S va a) (hb:RSl S vb b) (hm:a.length≤1048576):
  Ac prog 22 [va,vb] w fun v w'=>v=.bool (decide (a=b))∧St S M w':=by
 unfold Ac;have oa:=Lf ha;have ob:=Lf hb;obtain ⟨R,hR⟩:∃ R,decide (a=b)=R:=⟨_,rfl⟩
 rw [hR];have HR:=Lib.hid hR;clear hR;by_cases hl:a.length=b.length
 ·have HL:=Lib.hid hl;have hbl:b.length≤1048576:=by omega
  have hz:(((a.length:Nat):Int) != ((b.length:Nat):Int))=false:=bne_eq_false_iff_eq.2 (by omega);have hle1:a.length≤b.length:=by omega
  clear hl;go_enter func22,ntmps22;repeat' (first|apply sK ()|(apply O ();go_step)|apply sY ()|fail)
  go_loopw [5,13] (fun _ u13 wr=>∃ i:Nat,i≤a.length∧u13=.int .i64 (i:Int)∧Hid (a.take i=b.take i)∧St S M wr) (fun _ v _=>a.length - (intOf v).toNat)
  case atStart=>exact ⟨0,Nat.zero_le _,rfl,Lib.hid rfl,V⟩
  case round =>
   clear V;obtain ⟨i,hi,rfl,HT,V⟩:=hrel;by_cases hlt:i < a.length
   ·have hltb:i < b.length:=by omega
    have ka:=oa _ (List.getElem_mem hlt);have kb:=ob _ (List.getElem_mem hltb);by_cases he:a[i]=b[i]
    ·have hdc:decide (a[i]=b[i])=true:=decide_eq_true he;have HN:Hid (a.take (i+1)=b.take (i+1)):=Lib.hid (by rw [List.take_succ_eq_append_getElem hlt,List.take_succ_eq_append_getElem hltb,HT.out,he]);clear he;repeat' ((apply ZZ 6);first|(apply O ();go_step)|fail)
     refine AD V kr ?_;clear V;intro ops;apply nZ ();refine td 0 rfl ?_;refine td 1 rfl ?_;refine tx 2 rfl (Aq X Ak rfl Y Y Af Af) ?_;rintro v L;replace L:=iN L;refine tq 3 rfl (by exact BW X Ak Y Y rfl) ?_;refine td 4 rfl ?_;refine td 5 rfl ?_;refine tx 6 rfl (Aq X Ak rfl Y Y Af Af) ?_;rintro v L;replace L:=iN L;refine tq 7 rfl (by exact BW X Ak Y Y rfl) ?_;refine tq 8 rfl (ET rfl rfl (Dw ka) (Dw kb) Y Y Y hdc) ?_;refine AJ kr ?_;clear ops;intro w V;repeat' (first|(apply O ();go_step)|fail)
     apply SN ()
    ·have hdc:decide (a[i]=b[i])=false:=decide_eq_false he
     have HN:Hid (false=R):=Lib.hid (by
      rw [← HR.out]
      symm
      refine decide_eq_false fun e=>he ?_
      subst e;rfl)
     clear he;repeat' ((apply ZZ 6);first|(apply O ();go_step)|fail)
     refine AD V kr ?_;clear V;intro ops;apply nZ ();refine td 0 rfl ?_;refine td 1 rfl ?_;refine tx 2 rfl (Aq X Ak rfl Y Y Af Af) ?_;rintro v L;replace L:=iN L;refine tq 3 rfl (by exact BW X Ak Y Y rfl) ?_;refine td 4 rfl ?_;refine td 5 rfl ?_;refine tx 6 rfl (Aq X Ak rfl Y Y Af Af) ?_;rintro v L;replace L:=iN L;refine tq 7 rfl (by exact BW X Ak Y Y rfl) ?_;refine tq 8 rfl (ET rfl rfl (Dw ka) (Dw kb) Y Y Y hdc) ?_;refine AJ kr ?_;clear ops;intro w V;repeat' (first|(apply O ();go_step)|fail)
     go_ret;exact ⟨_,rfl,by rw [← HN.out];rfl,V⟩
   ·have HN:Hid (true=R):=Lib.hid (by
     have hll:=HL.out;have:=HT.out;rw [List.take_of_length_le (by omega),List.take_of_length_le (by omega)] at this;rw [← HR.out,decide_eq_true this])
    repeat' (first|(apply O ();go_step)|fail)
    go_ret;exact ⟨_,rfl,by rw [← HN.out];rfl,V⟩
 ·have hz:(((a.length:Nat):Int) != ((b.length:Nat):Int))=true:=bne_iff_ne.2 (by omega);have HN:Hid (false=R):=Lib.hid (by rw [← HR.out];exact (decide_eq_false fun e=>hl (by rw [e])).symm);clear hl;go_enter func22,ntmps22;repeat' (first|apply sK ()|(apply O ();go_step)|apply sY ()|fail)
  go_ret;exact ⟨_,rfl,by rw [← HN.out];rfl,V⟩
def DP (h:Hd):Bool:=decide (h.2.2.1 < 0) || decide (h.2.2.1 > 8)
set_option maxRecDepth 20000 in
theorem Zc {S M} (w) (V:St S M w) (h) (hk:FN h):
  Ac prog 45 [Wt h] w fun v w'=>v=.bool (DP h)∧St S M w':=by
 unfold Ac;unfold DP;obtain ⟨z1,hz1⟩:∃ z,decide (h.2.2.1 < 0)=z:=⟨_,rfl⟩
 obtain ⟨z2,hz2⟩:∃ z,decide (h.2.2.1 > 8)=z:=⟨_,rfl⟩
 rw [hz1,hz2];go_enter func45,ntmps45;repeat' ((apply ZZ 1);first|(apply O ();go_step)|(apply sC ();clear V;intro bx w V)|fail)
 obtain ⟨S1,hS1,hst1,L⟩:=AC (α:=Hd) V (Dw hk) (Z.len (Dw (S:=S) hk));clear V;have V:=hst1;clear hst1;generalize Value.pointer (some ⟨_,0,none⟩)=pH at L
 cases z1 with
 | true =>
  repeat' (first|go_skip|apply sK ()|(apply O ();go_step)|(apply tL ();refine An V (Am X Ak Y) ?_;rintro v ⟨rfl,hI⟩<;>apply nZ ())|(apply sJ ();intro v L)|fail)
  go_ret;exact ⟨_,rfl,rfl,St.weaken hS1 V⟩
 | false =>
  repeat' (first|apply sK ()|apply sG ()|(apply O ();go_step)|(apply tL ();refine An V (Am X Ak Y) ?_;rintro v ⟨rfl,hI⟩<;>apply nZ ())|(apply sJ ();intro v L)|fail)
  go_ret;exact ⟨_,rfl,rfl,St.weaken hS1 V⟩
def JB (p:Hd→Bool) (xs:List Hd):Int:=match xs.findIdx? p with|some i=>i|none=>-1
theorem dC (p xs):decide (JB p xs≥0)=xs.any p:=by
 unfold JB
 cases hf:xs.findIdx? p with
 | none =>
  rw [List.findIdx?_eq_none_iff] at hf;have:xs.any p=false:=by rw [List.any_eq_false];intro x hx;simp [hf x hx]
  rw [this];rfl
 | some i =>
  rw [List.findIdx?_eq_some_iff_getElem] at hf;obtain ⟨h,L,_⟩:=hf;have:xs.any p=true:=List.any_eq_true.2 ⟨_,List.getElem_mem h,L⟩;rw [this];exact decide_eq_true (by simp)
theorem Wo {p} {xs:List Hd} {k} (hk:k < xs.length) (hn:(xs.take k).any p=false) (L:p xs[k]=true):JB p xs=k:=by
 have:xs.findIdx? p=some k:=by
  rw [List.findIdx?_eq_some_iff_getElem];refine ⟨hk,L,fun j hj=>?_⟩;rw [List.any_eq_false] at hn;have:=hn xs[j] (by rw [List.mem_take_iff_getElem];exact ⟨j,by omega,rfl⟩)
  simpa using this
 simp [JB,this]
theorem Wp {p xs} (hn:xs.any p=false):JB p xs = -1:=by
 have:xs.findIdx? p=none:=by
  rw [List.findIdx?_eq_none_iff];intro x hx;rw [List.any_eq_false] at hn
  simpa using hn x hx
 simp [JB,this]
theorem Xk (q) (xs:List Hd) {i} (h):(xs.take (i+1)).any q=((xs.take i).any q || q xs[i]):=by
 rw [List.take_succ_eq_append_getElem h,List.any_append];simp
set_option maxRecDepth 20000 in
theorem Zo {S M} (w) (V:St S M w) (vs xs) (hxs:RSl S vs xs) (hm:xs.length≤1048576):
  Ac prog 82 [vs,.func (.func 45) #[] #[]] w fun v w'=>v=.int .i64 (JB DP xs)∧St S M w':=by
 unfold Ac;have ok:=Lf hxs;obtain ⟨R,hR⟩:∃ R,JB DP xs=R:=⟨_,rfl⟩
 rw [hR];have HR:=Lib.hid hR;clear hR;go_enter func82,ntmps82;repeat' (first|(apply O ();go_step)|apply sY ()|fail)
 go_loopw [5,8] (fun _ u8 wr=>∃ i:Nat,i≤xs.length∧u8=.int .i64 (i:Int)∧Hid ((xs.take i).any DP=false)∧St S M wr) (fun _ v _=>xs.length - (intOf v).toNat)
 case atStart=>exact ⟨0,Nat.zero_le _,rfl,Lib.hid rfl,V⟩
 case round =>
  clear V;obtain ⟨i,hi,rfl,HA,V⟩:=hrel;by_cases hlt:i < xs.length
  ·have ki:=ok _ (List.getElem_mem hlt);have hnx:=Xk DP xs hlt;rw [HA.out,Bool.false_or] at hnx;have cK:=fun {M} w (V:St S M w)=>Zc w V xs[i] ki
   cases hz:DP xs[i] with
   | true =>
    have HN:Hid (((i:Nat):Int)=R):=Lib.hid (by rw [← HR.out,Wo hlt HA.out hz]);rw [hz] at cK;clear hnx hz;repeat' (first|(apply O ();go_step)|(apply kc ();refine Eh (cK _ V) rfl Y rfl rfl ?_;clear V;rintro v w ⟨rfl,V⟩<;>apply nZ ()<;>(try replace V:=nH V))|apply sP ()|(apply sJ ();intro v L)|fail)
    go_ret;exact ⟨_,rfl,by rw [← HN.out];rfl,V⟩
   | false =>
    rw [hz] at cK hnx;have HN:=Lib.hid hnx;clear hnx hz;repeat' (first|(apply O ();go_step)|(apply kc ();refine Eh (cK _ V) rfl Y rfl rfl ?_;clear V;rintro v w ⟨rfl,V⟩<;>apply nZ ()<;>(try replace V:=nH V))|apply sP ()|(apply sJ ();intro v L)|fail)
    apply SN ()
  ·have HN:Hid ((-1:Int)=R):=Lib.hid (by
    have:=HA.out;rw [List.take_of_length_le (by omega)] at this;rw [← HR.out,Wp this])
   repeat' (first|(apply O ();go_step)|fail)
   go_ret;exact ⟨_,rfl,by rw [← HN.out];rfl,V⟩
set_option maxRecDepth 20000 in
theorem RE {S M} (w) (V:St S M w) (vs xs) (hxs:RSl S vs xs) (hm:xs.length≤1048576):
  Ac prog 44 [vs,.func (.func 45) #[] #[]] w fun v w'=>v=.bool (xs.any DP)∧St S M w':=by
 unfold Ac;have cI:=fun {M} w (V:St S M w)=>Zo w V vs xs hxs hm
 obtain ⟨z,hz⟩:∃ z,decide (JB DP xs≥0)=z:=⟨_,rfl⟩
 rw [← dC,hz];generalize JB DP xs=q at *;go_enter func44,ntmps44;repeat' (first|apply sK ()|(apply O ();go_step)|(apply kc ();refine sc (cI _ V) ?_;clear V;rintro v w ⟨rfl,V⟩)|fail)
 go_ret;exact ⟨_,rfl,by rw [← hz];rfl,V⟩
set_option maxRecDepth 20000 in
theorem de {S M} (w) (V:St S M w) (n:Nat) (hn:n≤8):
  Ac prog 127 [.int .u64 1,.int .u64 (n:Int)] w fun v w'=>v=.tuple #[.int .u64 0,.int .u64 (n:Int)]∧St S M w':=by
 unfold Ac;obtain rfl|rfl|rfl|rfl|rfl|rfl|rfl|rfl|rfl:n=0∨n=1∨n=2∨n=3∨n=4∨n=5∨n=6∨n=7∨n=8:=by omega
 all_goals
  go_enter func127,ntmps127;repeat' (first|(apply O ();go_step)|fail)
  go_ret2
  exact ⟨_,rfl,rfl,V⟩
set_option maxRecDepth 20000 in
theorem iO {S M} (w) (V:St S M w) (n:Nat) (hn:n≤8):
  Ac prog 85 [.int .u64 1,.int .u64 (n:Int)] w fun v w'=>v=.tuple #[.int .u64 0,.int .u64 (n:Int)]∧St S M w':=by
 unfold Ac;have cM:=fun {M} w (V:St S M w)=>de w V n hn
 go_enter func85,ntmps85;repeat' (first|(apply O ();go_step)|(apply kc ();refine sc (cM _ V) ?_;clear V;rintro v w ⟨rfl,V⟩)|fail)
 go_ret2
 exact ⟨_,rfl,rfl,V⟩
def Hs (n c:Nat):List Value:=List.replicate c (Value.int .i64 (-1))++List.replicate (n - c) (Value.int .i64 0)
theorem Yn {n c m} (hc:c+m≤n) (hm:m≤c):(Hs n c).take (c * 1)++(Hs n c).take (m * 1)++(Hs n c).drop (c * 1+m * 1)=Hs n (c+m):=by
 unfold Hs;simp only [Nat.mul_one];have e1:(List.replicate c (Value.int .i64 (-1))++List.replicate (n - c) (Value.int .i64 0)).take c=List.replicate c (Value.int .i64 (-1)):=List.take_left' (by simp)
 have e2:(List.replicate c (Value.int .i64 (-1))++List.replicate (n - c) (Value.int .i64 0)).take m=List.replicate m (Value.int .i64 (-1)):=by
  rw [List.take_append_of_le_length (by simp;omega),List.take_replicate,Nat.min_eq_left hm]
 have e3:(List.replicate c (Value.int .i64 (-1))++List.replicate (n - c) (Value.int .i64 0)).drop (c+m)=List.replicate (n - (c+m)) (Value.int .i64 0):=by
  rw [List.drop_append,List.drop_of_length_le (by simp),List.nil_append,List.length_replicate,List.drop_replicate]
  congr 1;omega
 rw [e1,e2,e3,List.replicate_append_replicate]
theorem bw (n):Hs n n=cF Ba (List.replicate n (-1)):=by
 unfold Hs;rw [Nat.sub_self,List.replicate_zero,List.append_nil]
 induction n with
 | zero=>rfl
 | succ n ih=>rw [List.replicate_succ,List.replicate_succ];show _::_=Value.int .i64 (-1)::cF Ba (List.replicate n (-1));rw [ih]
theorem bu (n c):∀ a∈Hs n c,a.oneCell'=true:=by
 intro a ha;unfold Hs at ha;rcases List.mem_append.1 ha with ha|ha
 ·rw [List.eq_of_mem_replicate ha];rfl
 ·rw [List.eq_of_mem_replicate ha];rfl
theorem Ym (n):(List.replicate n ([.int .i64 0]:List Value)).flatten=Hs n 0:=by
 unfold Hs;rw [List.replicate_zero,List.nil_append,Nat.sub_zero]
 induction n with
 | zero=>rfl
 | succ n ih=>rw [List.replicate_succ,List.replicate_succ,List.flatten_cons,ih];rfl
theorem VB {n} (h:1≤n):([.int .i64 (-1)]:List Value)++(Hs n 0).drop (1 * 1)=Hs n 1:=by
 unfold Hs;rw [List.replicate_zero,List.nil_append,Nat.sub_zero,List.drop_replicate];rfl
theorem iE {S c} (h:RL S c ([-1]:List Int)):c=[.int .i64 (-1)]:=by
 have h1:=h.2 0 (-1) rfl;have hl:c.length=1:=h.1
 match c,hl with
 | [a],_=>exact h1.1
theorem bn {P ops rest} {Q:Exit→Act→World→Prop} {l D w ty pos af S M d x y u t tx E e' agg z cap ad zero bb} {xs:List Int} (V:St S M w) (hx:Ai l x=.slice ad 0 cap) (hy:Ai l y=u) (hu:RSl S u xs) (hT:SlT P t E) (hE:Ty P E agg z zero bb) (hU:SlT P tx e') (h:wpList P ops Q rest ⟨(l.set d (.int .i64 0)).toArray,D⟩ w):
  wpList P ops Q (⟨some d,.call { callee:=.builtin .copy,args:=#[x,y],argTypes:=#[t,tx] },ty,pos,af,none⟩::rest) ⟨l.toArray,D⟩ w:=by
 obtain ⟨i,hi,hiz,his,hib⟩:=hE.run_bytes;refine BK (v:=.int .i64 0) (w':=w) ?_ h
 have hl:∃ a n c,u=.slice a n c:=by
  rcases hu with ⟨ad,cap,rfl,_⟩|⟨b,o,cap,c,T,fz,rfl,_⟩
  ·exact ⟨_,_,_,rfl⟩
  ·exact ⟨_,_,_,rfl⟩
 obtain ⟨a,n,c,rfl⟩:=hl
 have hf:(Builtin.firstCells z 0 (.slice a n c)).run P w=.ok #[] w:=by
  cases a with
  | none=>rfl
  | some a=>exact run_firstCells_some w z 0 a n c [] (by simp) (fun j v hj=>by simp at hj)
 have hmin:Nat.min n 0=0:=Nat.min_zero n
 cases ad with
 | none=>simp [execOp,resolve,invoke,builtin,hx,hy,goInt,Builtin.copy_,run_underlying hT.u,sizeOf,typeInfo,hi,his,Builtin.lenOf,hmin,hf]
 | some q=>simp [execOp,resolve,invoke,builtin,hx,hy,goInt,Builtin.copy_,run_underlying hT.u,sizeOf,typeInfo,hi,his,Builtin.lenOf,hmin,hf,storeCells]
set_option maxRecDepth 20000 in
theorem Yv {S M} (w) (V:St S M w) (vx) (hx:RSl S vx ([-1]:List Int)) (n:Nat) (hn:n≤8):
  Ac prog 47 [vx,.int .i64 (n:Int)] w fun v w'=>∃ ad cap,v=.slice ad n cap∧St S (.sl (.slice ad n cap) 3 1 n (cF Ba (List.replicate n (-1)))::M) w':=by
 unfold Ac;have cM:=fun {M} w (V:St S M w)=>iO w V n hn
 have hnn:¬ ((n:Int) < 0):=by omega
 go_enter func47,ntmps47;repeat' ((apply ZZ 4);first|(apply tV ();with_unfolding_all refine Ag V (EU (m:=(1:Int)) rfl Y Y (by decide)) ?_<;>apply nZ ())|(apply O ();go_step)|(apply kc ();refine sc (cM _ V) ?_;clear V;rintro v w ⟨rfl,V⟩)|apply sY ()|fail)
 have hg1:decide ((n:Int) > 9223372036854775807)=false:=decide_eq_false (by omega);repeat' ((apply ZZ 6);first|apply sK ()|apply sG ()|(apply O ();go_step)|fail)
 repeat' (first|(apply tV ();with_unfolding_all refine Ag V (EU (m:=(n:Int)) rfl Y Y (Lt ⟨by omega,by omega⟩)) ?_<;>apply nZ ())|(apply O ();go_step)|fail)
 refine JI (n:=n) V Y Y X X (by omega) (by omega) ?_;clear V;intro v w V;apply nZ ();rw [Ym] at V;have hone:=BE (k:=0) V rfl;obtain ⟨a0,k0,rfl⟩:=Go.Sl.sl_formk (k:=0) V rfl;by_cases h0:n=0
 ·subst h0;repeat' (first|(apply O ();go_step)|fail)
  refine bn V X X hx Y Y Y ?_;apply nZ ();repeat' (first|(apply O ();go_step)|fail)
  go_loopw [8] (fun u8 wr=>u8=.int .i64 0∧St S (.sl (.slice a0 0 k0) 3 1 0 (Hs 0 0)::M) wr) (fun _ _=>0)
  case atStart=>exact ⟨rfl,V⟩
  case round =>
   clear V;obtain ⟨rfl,V⟩:=hrel;repeat' (first|(apply O ();go_step)|apply sY ()|fail)
   go_ret;exact ⟨_,rfl,a0,k0,rfl,V⟩
 ·obtain ⟨c1,hs1,hc1⟩:=Src.data (P:=prog) (tx:=52) V hx (SlT.u (E:=3));obtain rfl:c1=[.int .i64 (-1)]:=iE hc1;repeat' (first|(apply O ();go_step)|fail)
  refine eR (k:=0) (m:=1) V X X rfl Y Y hs1 (by simp [Value.oneCell']) (by omega) ?_;clear V;intro w V;apply nZ ()
  have hst0:St S (.sl (.slice a0 n k0) 3 1 n (Hs n 1)::M) w:=by
   rw [← VB (by omega)];exact V
  clear V hs1 hc1;have V:=hst0;clear hst0;repeat' (first|(apply O ();go_step)|fail)
  go_loopw [8] (fun u8 wr=>∃ c:Nat,1≤c∧c≤n∧u8=.int .i64 (c:Int)∧St S (.sl (.slice a0 n k0) 3 1 n (Hs n c)::M) wr) (fun v _=>n - (intOf v).toNat)
  case atStart=>exact ⟨1,by omega,by omega,rfl,V⟩
  case round =>
   clear V;obtain ⟨c,hc1,hc2,rfl,V⟩:=hrel;by_cases hlt:c < n
   ·obtain ⟨m,hm,hm1,hm2⟩:∃ m:Nat,m=min c (n - c)∧1≤m∧c+m≤n:=⟨min c (n - c),rfl,by omega,by omega⟩
    have hmc:m≤c:=by omega
    have HS:=Lib.hid (Yn hm2 hmc);have HO:=Lib.hid (bu n c);have HM:=Lib.hid hm;clear hm;repeat' ((apply ZZ 9);first|(apply O ();go_step)|apply sY ()|fail)
    refine Bm V kr ?_;clear V;intro w V;have hSS:=Cn V;apply nZ ();refine pd 0 rfl ?_;refine pd 1 rfl ?_;refine pd 2 rfl ?_;refine pd 4 rfl ?_;refine pd 5 rfl ?_;refine Cp 3 6 rfl rfl kr ?_ ?_;intro K G;refine An V (R5 (a:=c) V X SlIn.h rfl Y Y hlt) ?_;rintro v3 ht3;refine pn G ?_;clear G K;refine po 6 rfl ?_;intro K G;refine An V (OS (b:=c) V X SlIn.h rfl Y Y (by omega) (by omega)) ?_;rintro v6 hp6;refine pn G ?_;clear G K;refine po 7 rfl ?_;intro K G;refine ON (m:=m) (o:=c) V X X SlIn.h ht3 hp6 Y Y HO.out (by omega) (by omega) HM.out ?_;clear V;intro w V;simp only [List.set_cons_zero] at V;rw [HS.out] at V;(try replace V:=nH V);refine pn G ?_;clear G K;refine pt 8 rfl (by exact DC rfl rfl Af) ?_;refine pd 9 rfl ?_;refine AK kr ?_;rotate_left;intro K G;refine An V (OS (b:=c) V X SlIn.h rfl Y Y (by omega) (by omega)) ?_;rintro v6 hp6;refine pn G ?_;clear G K;refine po 3 rfl ?_;intro K G;refine An V (R5 (a:=c) V X SlIn.h rfl Y Y hlt) ?_;rintro v3 ht3;refine pn G ?_;clear G K;refine po 7 rfl ?_;intro K G;refine ON (m:=m) (o:=c) V X X SlIn.h ht3 hp6 Y Y HO.out (by omega) (by omega) HM.out ?_;clear V;intro w V;simp only [List.set_cons_zero] at V;rw [HS.out] at V;(try replace V:=nH V);refine pn G ?_;clear G K;refine pt 8 rfl (by exact DC rfl rfl Af) ?_;refine pd 9 rfl ?_;refine AK kr ?_;rotate_left
    all_goals
     repeat' (first|(apply O ();go_step)|fail)
     go_roundw
     case rel=>exact ⟨c+m,by omega,hm2,by go_num,V⟩
     case measure=>simp [intOf];omega
   ·obtain rfl:c=n:=by omega
    repeat' (first|(apply O ();go_step)|apply sY ()|fail)
    go_ret;exact ⟨_,rfl,a0,k0,rfl,by rw [← bw];exact V⟩
end Go.Proofs.YtmmbidoldegemaaGreatDoor
