/- Part 39 of a proof; no conditions. -/
import Derived.Test.YtmmbidoldegemaaGreatDoorZ37
set_option linter.all false
set_option maxRecDepth 8000
set_option maxHeartbeats 8000000
namespace Go.Proofs.YtmmbidoldegemaaGreatDoor
open Go.RowKit Go.Sl Go.Proofs.Tryz
instance oK:MapT prog 83 57 4:=⟨underlying83⟩
instance Ix:FlatC (Int×Int) Bi:=⟨fun {S cs x} h=>by
 obtain ⟨hl,h1,h2⟩:=h;have hl':cs.length=2:=hl
 match cs,hl' with
 | [a,b],_ =>
  have f1:a=_:=(List.cons.inj h1.1).1;have f2:b=_:=(List.cons.inj h2.1).1;rw [f1,f2];rfl⟩
theorem MY (x):Instr.sameBits 10000 (.agg (Bi x).toArray) (.agg (Bi x).toArray)=true:=by
 unfold Bi;simp [Instr.sameBits]
theorem Lx {α:Type} [Z α] {S v} {xs:List α} (h:RSl S v xs) {i} (hi:i < xs.length):∃ cs,Z.R S cs xs[i]:=by
 apply jA ()
theorem RA {α:Type} (q) (xs:List α) {i} (h):(xs.take (i+1)).filter q=if q xs[i]=true then (xs.take i).filter q++[xs[i]] else (xs.take i).filter q:=by
 rw [List.take_succ_eq_append_getElem h,List.filter_append];by_cases hq:q xs[i]=true
 ·rw [if_pos hq,List.filter_cons_of_pos hq,List.filter_nil]
 ·rw [if_neg hq,List.filter_cons_of_neg hq,List.filter_nil,List.append_nil]
def JZ (kvs:List ((Int×Int)×Value)) (xs:List (Int×Int)):Prop:=∀ k,BD kvs k=if k∈xs then some (.bool true) else none
theorem Zf:JZ [] []:=fun k=>by rw [Jc];simp
theorem Ze {kvs xs x} (h:JZ kvs xs) (hx:x ∉ xs):JZ (kvs++[(x,.bool true)]) (xs++[x]):=fun k=>by
 rw [Nr,h k];by_cases h1:k∈xs
 ·simp [h1]
 ·by_cases h2:k=x
  ·simp [h1,h2,hx]
  ·simp [h1,h2]
theorem Zd {kvs xs x} (h:JZ kvs xs) (hx:x∈xs):JZ (Ez kvs x (.bool true)) (xs++[x]):=fun k=>by
 rw [Mb,h x,h k];by_cases h2:k=x
 ·simp [h2,hx]
 ·by_cases h1:k∈xs<;>simp [h1,h2]
def PZ (ev:Cz) (ks:List (Int×Int)):Cz:=(ev.1,ev.2.1,ev.2.2.1.filter (fun p=>decide (kP p∈ks)),())
abbrev NU (S:Ad) (M:List J) (x:Cz) (v:Value) (w:World):Prop:=∃ S' cs,S.Le S'∧v=.agg cs.toArray∧Z.R S' cs x∧St S' M w
theorem WD {a0 a1 a2 a3 a4 a5 a6 a7 a8 a9 c0 c1 c2 c3 c4 c5 S cl} {hs:List Hd} {ps} (h:Z.R S cl (((⟨[a0,a1,a2,a3,a4,a5,a6,a7,a8,a9,c0,c1,c2,c3,c4,c5]⟩:Dg),hs,ps,()):Cz)):
  ∃ ua un uc pa pn pc,cl=KB a0 a1 a2 a3 a4 a5 a6 a7 a8 a9 c0 c1 c2 c3 c4 c5 (.slice ua un uc) (.slice pa pn pc)∧RSl S (.slice ua un uc) hs∧RSl S (.slice pa pn pc) ps:=by
 obtain ⟨hl,h1,h2⟩:=h;obtain ⟨hl2,h3,h4⟩:=h2;obtain ⟨hl3,h5,h6⟩:=h4;obtain ⟨v1,e1,i1⟩:=h3;obtain ⟨v2,e2,i2⟩:=h5
 have hs1:∀ {α:Type} [Z α] {v:Value} {xs:List α},RSl S v xs→∃ a n c,v=.slice a n c:=by
  intro α _ v xs h9;apply js ()
 obtain ⟨ua,un,uc,rfl⟩:=hs1 i1;obtain ⟨pa,pn,pc,rfl⟩:=hs1 i2;refine ⟨ua,un,uc,pa,pn,pc,?_,i1,i2⟩;have e0:=(FlatC.flat (cells:=fun d:Dg=>u8s d.l) h1:cl.take 16=_)
 have hz1:Z.z Dg=16:=rfl
 have hcl:cl=cl.take 16++(((cl.drop 16).take 1)++(((cl.drop 16).drop 1).take 1++((cl.drop 16).drop 1).drop 1)):=by
  rw [List.take_append_drop,List.take_append_drop,List.take_append_drop]
 have hl':cl.length=18:=hl;have h18:((cl.drop 16).drop 1).drop 1=[]:=List.drop_eq_nil_of_le (by simp;omega);have e1':(cl.drop 16).take 1=[.slice ua un uc]:=e1;have e2':((cl.drop 16).drop 1).take 1=[.slice pa pn pc]:=e2;rw [hcl,e0,e1',e2',h18];rfl
theorem PY {S M} (w) (V:St S M w) (cs ev) (hR:Z.R S cs ev) (vk ks) (hk:RSl S vk ks) (hm:ev.2.2.1.length≤1000000) (hm2:ks.length≤1048576):
  Ac prog 13 [.agg cs.toArray,vk] w (NU S M (PZ ev ks)):=by
 unfold Ac;obtain ⟨m,hs,ps,⟨⟩⟩:=ev;have hm16:m.l.length=16:=hR.2.1.1;obtain ⟨a0,a1,a2,a3,a4,a5,a6,a7,a8,a9,c0,c1,c2,c3,c4,c5,rfl⟩:=QT hm16;obtain ⟨ua,un,uc,pa,pn,pc,rfl,hu,L⟩:=WD hR;unfold PZ;simp only at hm ⊢;obtain ⟨R,hRR⟩:∃ R,ps.filter (fun p=>decide (kP p∈ks))=R:=⟨_,rfl⟩
 rw [hRR];have HR:=Lib.hid hRR;clear hRR hR;go_enter func13,ntmps13;repeat' ((apply ZZ 1);first|(apply O ();go_step)|(apply sC ();clear V;intro bx w V)|(apply sZ ();clear V;intro bk w V)|fail)
 rename Nat=>bz
 refine wp_region_lit ?_;refine KQ V ?_;clear V;intro bm w V;apply nZ ();repeat' (first|(apply O ();go_step)|apply sY ()|fail)
 go_loopw [14] (fun u14 wr=>∃ (i clock:Nat) (es:Array MapEntry) (kvs:List ((Int×Int)×Value)),i≤ks.length∧u14=.int .i64 (i:Int)∧Hid (JZ kvs (ks.take i))∧BS S es.toList kvs∧St S (.obj bm (.map es clock)::.box bz Gm 27::.box bx (KB a0 a1 a2 a3 a4 a5 a6 a7 a8 a9 c0 c1 c2 c3 c4 c5 (.slice ua un uc) (.slice pa pn pc)) 27::M) wr) (fun v _=>ks.length - (intOf v).toNat)
 case atStart=>exact ⟨0,0,#[],[],Nat.zero_le _,rfl,Lib.hid Zf,trivial,V⟩
 case round =>
  clear V;obtain ⟨i,clock,es,kvs,hi,rfl,HK,hmap,V⟩:=hrel;by_cases hlt:i < ks.length
  ·have hsn:Hid (ks.take (i+1)=ks.take i++[ks[i]]):=Lib.hid (by rw [List.take_succ_eq_append_getElem hlt]);obtain ⟨ck,hck⟩:=Lx hk hlt;have hck2:Z.R S (Bi ks[i]) ks[i]:=by rw [← Ix.flat hck];exact hck
   have hat:=HK.out ks[i];repeat' ((apply ZZ 5);first|(apply O ();go_step)|apply sP ()|(apply sJ ();intro v L)|(apply sZ ();clear V;intro bk w V)|fail)
   simp only [Bi];repeat' ((apply ZZ 5);first|(apply O ();go_step)|(apply sT ();clear V;intro w V)|fail)
   refine wp_region_lit ?_;repeat' (first|(apply O ();go_step)|(apply tL ();refine Ag V (by exact BB X N.h Y FS) ?_<;>apply nZ ())|fail)
   by_cases hin:ks[i]∈ks.take i
   ·rw [if_pos hin] at hat;refine IC (cells:=Bi) V X rfl X Ix Y Y kr Y Y hmap hck2 hat (MY _) ?_;clear V;intro es' w hmap' V;apply nZ ();(try replace V:=nH V);repeat' (first|(apply O ();go_step)|fail)
    go_roundw
    case rel=>exact ⟨i+1,clock,es',_,by omega,by go_num,Lib.hid (by rw [hsn.out];exact Zd HK.out hin),hmap',V.drop⟩
    case measure=>simp [intOf];omega
   ·rw [if_neg hin] at hat;refine GM (x:=ks[i]) (cs:=Bi ks[i]) V X rfl X Y Y kr Y Y hmap hck2 hat ?_;clear V;intro es' w hmap' V;apply nZ ();(try replace V:=nH V);repeat' (first|(apply O ();go_step)|fail)
    go_roundw
    case rel=>exact ⟨i+1,clock+1,es',_,by omega,by go_num,Lib.hid (by rw [hsn.out];exact Ze HK.out hin),hmap',V.drop⟩
    case measure=>simp [intOf];omega
  ·obtain rfl:i=ks.length:=by omega
   rw [List.take_length] at HK;have hkept:=Lib.hid HK.out;clear HK;replace V:=V.nil 63 4;repeat' (first|(apply O ();go_step)|apply sY ()|fail)
   go_loopw [8,24] (fun u8 u24 wr=>∃ (i n:Nat) (ao:Option Addr) (ko:Nat) (co:List Value),i≤ps.length∧n≤i∧u8=.slice ao n ko∧u24=.int .i64 (i:Int)∧Hid (n=((ps.take i).filter (fun p=>decide (kP p∈ks))).length)∧RL S co ((ps.take i).filter (fun p=>decide (kP p∈ks)))∧St S (.sl (.slice ao n ko) 63 4 n co::.obj bm (.map es clock)::.box bz Gm 27::.box bx (KB a0 a1 a2 a3 a4 a5 a6 a7 a8 a9 c0 c1 c2 c3 c4 c5 (.slice ua un uc) (.slice pa pn pc)) 27::M) wr) (fun _ v _=>ps.length - (intOf v).toNat)
   case atStart=>exact ⟨0,0,none,0,[],Nat.zero_le _,by omega,rfl,rfl,Lib.hid rfl,RL.nil,V⟩
   case round =>
    clear V;obtain ⟨i,n,ao,ko,co,hi,hni,rfl,rfl,hnl,hC,V⟩:=hrel;have hone:=BE (k:=0) V rfl;by_cases hlt:i < ps.length
    ·have hsn:=RA (fun p:Pn=>decide (kP p∈ks)) ps hlt;have hat:=hkept.out (kP ps[i]);obtain ⟨cq,hcq⟩:=Lx L hlt;have hRk:Z.R S (Bi (kP ps[i])) (kP ps[i]):=Df (CK hcq).choose_spec.2.2.1 (CK hcq).choose_spec.2.2.2.1;clear hcq cq;by_cases hin:kP ps[i]∈ks
     ·rw [decide_eq_true hin,if_pos rfl] at hsn;rw [if_pos hin] at hat;have hsn:=Lib.hid hsn;clear hin;repeat' ((apply ZZ 11);first|(apply tS ();refine I4 V rfl N.h X Ak Y rfl rfl ?_;clear V;intro w V<;>apply nZ ()<;>(try replace V:=nH V))|(apply O ();go_step)|(apply tL ();refine An V (Aw X Ak Y) ?_;rintro v ⟨cl,rfl,hcl⟩<;>apply nZ ())|(apply sJ ();intro v L)|(apply sZ ();clear V;intro bk w V)|fail)
      refine wp_region_lit ?_;repeat' (first|(apply O ();go_step)|fail)
      have hclx:=hcl;obtain ⟨sx,rfl,hx0,hx1,hx2,hx3⟩:=CK hcl;clear hcl;rw [show Z.agg Pn=true from rfl];apply nZ ();have cP:=fun {M} w (V:St S M w)=>Dx w V _ _ hclx
      repeat' (first|(with_reducible (refine Ag V (CB (x:=kP ps[i]) (cs:=Bi (kP ps[i])) X rfl Y Y kr Y Y Y hmap hRk false) ?_;simp only [Bool.false_eq_true,if_false,hat,Option.getD_some,Option.getD_none,Ap])<;>apply nZ ())|(apply O ();go_step)|(apply kc ();refine sc (cP _ V) ?_;clear V;rintro v w ⟨rfl,V⟩)|(apply tL ();refine Ag V (by exact BB X N.h Y FS) ?_<;>apply nZ ())|fail)
      refine Ay (vs:=[(.agg #[.int .i64 ps[i].1,.int .i64 ps[i].2.1,.int .i64 ps[i].2.2.1,.slice sx.1 sx.2.1 sx.2.2])]) V Y Y rfl rfl (by simp [Value.cells]) rfl (by omega) (by omega) ?_;clear V;intro u w V;refine nY ?_;refine AF (j:=0) V X X SlIn.h rfl Y Y Y (by simp [Value.cells,Value.oneCell']) (by omega) (by omega) (by decide) ?_;clear V;intro v' w V;refine nY ?_;(try replace V:=nH V);replace V:=V.drop;obtain ⟨ay,cy,rfl⟩:=Go.Sl.sl_formk (k:=1) V rfl;apply nZ ();repeat' (first|(apply O ();go_step)|fail)
      go_roundw
      case rel=>exact ⟨i+1,n+1,ay,cy,_,by omega,by omega,rfl,by go_num,Lib.hid (by rw [hsn.out,List.length_append,hnl.out];rfl),by rw [hsn.out];exact hC.append (RL.one_mk hclx),V.drop⟩
      case measure=>simp [intOf];omega
     ·rw [decide_eq_false hin,if_neg (by decide)] at hsn;rw [if_neg hin] at hat;have hsn:=Lib.hid hsn;clear hin;repeat' ((apply ZZ 11);first|(apply tS ();refine I4 V rfl N.h X Ak Y rfl rfl ?_;clear V;intro w V<;>apply nZ ()<;>(try replace V:=nH V))|(apply O ();go_step)|(apply tL ();refine An V (Aw X Ak Y) ?_;rintro v ⟨cl,rfl,hcl⟩<;>apply nZ ())|(apply sJ ();intro v L)|(apply sZ ();clear V;intro bk w V)|fail)
      refine wp_region_lit ?_;repeat' (first|(apply O ();go_step)|fail)
      have hclx:=hcl;obtain ⟨sx,rfl,hx0,hx1,hx2,hx3⟩:=CK hcl;clear hcl;rw [show Z.agg Pn=true from rfl];apply nZ ();have cP:=fun {M} w (V:St S M w)=>Dx w V _ _ hclx
      repeat' (first|(with_reducible (refine Ag V (CB (x:=kP ps[i]) (cs:=Bi (kP ps[i])) X rfl Y Y kr Y Y Y hmap hRk false) ?_;simp only [Bool.false_eq_true,if_false,hat,Option.getD_some,Option.getD_none,Ap])<;>apply nZ ())|(apply O ();go_step)|(apply kc ();refine sc (cP _ V) ?_;clear V;rintro v w ⟨rfl,V⟩)|(apply tL ();refine Ag V (by exact BB X N.h Y FS) ?_<;>apply nZ ())|fail)
      go_roundw
      case rel=>exact ⟨i+1,n,ao,ko,co,by omega,by omega,rfl,by go_num,Lib.hid (by rw [hsn.out,hnl.out]),by rw [hsn.out];exact hC,V.drop⟩
      case measure=>simp [intOf];omega
    ·obtain rfl:i=ps.length:=by omega
     rw [List.take_length,HR.out] at hC hnl;obtain rfl:=hnl.out;obtain ⟨S2,hS2,hst2,hx⟩:=St.freeze (α:=Pn) V hC rfl;clear V;have V:=hst2;clear hst2;have hmap:=hmap.mono hS2;repeat' (first|(apply O ();go_step)|(apply tL ();refine Ag V (by exact BB X N.h Y FS) ?_<;>apply nZ ())|apply sY ()|(apply sT ();clear V;intro w V)|fail)
     refine GP rfl (AZ V rfl _ N.h Y rfl rfl) ?_;(try simp only [AV,List.drop_zero,List.drop_succ_cons,List.take_succ_cons,List.take_zero,AB,Ap]);have hRx:Z.R S2 (KB a0 a1 a2 a3 a4 a5 a6 a7 a8 a9 c0 c1 c2 c3 c4 c5 (.slice ua un uc) (.slice ao R.length ko)) (((⟨[a0,a1,a2,a3,a4,a5,a6,a7,a8,a9,c0,c1,c2,c3,c4,c5]⟩:Dg),hs,R,()):Cz):=AG (BL hm16) (AG (cs:=[_]) ⟨_,rfl,hu.mono hS2⟩ (AG (cs:=[_]) ⟨_,rfl,hx⟩ CM));exact ⟨_,rfl,S2,_,hS2,rfl,hRx,V.drop.drop.drop⟩
def DK (p:Pn):Int:=p.2.2.1
def C1 (ps:List Pn) (k:Int×Int):List Int:=(ps.filter fun p=>decide (kP p=k)).map DK
def IJ (a:List Pn):List Pn→List Pn→Option (List Pn)
 | [],out=>some out
 | p::r,out=>if (C1 a (kP p)).any (fun n=>decide (n≠DK p))=true then none else IJ a r (if C1 a (kP p)=[] then out++[p] else out)
def JC:Cz:=(⟨[0,0,0,0,0,0,0,0,0,0,0,0,0,0,0,0]⟩,[],[],())
def Ep (x y:Cz):Cz×Int :=
 if x.1=y.1∧x.2.1=y.2.1 then
  match IJ x.2.2.1 y.2.2.1 x.2.2.1 with
  | none=>(JC,15)
  | some out=>((x.1,x.2.1,Srt.sortR kP out,()),0)
 else (JC,15)
theorem E0 (ps p k):C1 (ps++[p]) k=if kP p=k then C1 ps k++[DK p] else C1 ps k:=by
 unfold C1;rw [List.filter_append];by_cases h:kP p=k
 ·rw [if_pos h,List.filter_cons_of_pos (by simpa using h),List.filter_nil,List.map_append];rfl
 ·rw [if_neg h,List.filter_cons_of_neg (by simpa using h),List.filter_nil,List.append_nil]
theorem OD (ps k):(C1 ps k).length≤ps.length:=by
 unfold C1;rw [List.length_map];exact List.length_filter_le _ _
structure Dr where
 k:Int×Int
 ad:Option Addr
 cap:Nat
 xs:List Int
abbrev Dr.v (e:Dr):Value:=.slice e.ad e.xs.length e.cap
abbrev BR (e:Dr):J:=.sl e.v 3 1 e.xs.length (cF Ba e.xs)
def EV (es:List Dr):List ((Int×Int)×Value):=es.map fun e=>(e.k,e.v)
structure HY (es:List Dr) (ps:List Pn):Prop where
 nd:(es.map (·.k)).Nodup
 xs:∀ e∈es,e.xs=C1 ps e.k∧e.xs≠[]
 al:∀ k,C1 ps k≠[]→∃ e∈es,e.k=k
theorem eH:HY [] []:=⟨List.nodup_nil,fun e h=>(by cases h),fun k h=>(h rfl).elim⟩
theorem Y9 {es k} (h:∀ e∈es,e.k≠k):BD (EV es) k=none:=by
 induction es with
 | nil=>rfl
 | cons e es ih =>
  show BD ((e.k,e.v)::EV es) k=none;rw [C7,if_neg (fun x=>h e List.mem_cons_self x.symm)];exact ih fun e' he=>h e' (List.mem_cons_of_mem _ he)
theorem HY.no {es ps k} (h:HY es ps) (hk:C1 ps k=[]):BD (EV es) k=none:=by
 refine Y9 fun e he ek=>?_
 have:=h.xs e he;rw [ek,hk] at this;exact this.2 this.1
theorem Sk (a b):EV (a++b)=EV a++EV b:=by unfold EV;rw [List.map_append]
theorem Wf:∀ {l1:List Dr} {e:Dr} {l2:List Dr},(∀ x∈l1,x.k≠e.k)→BD (EV (l1++e::l2)) e.k=some e.v∧∀ v,Ez (EV (l1++e::l2)) e.k v=EV l1++(e.k,v)::EV l2
 | [],e,l2,_=>by
  constructor
  ·show BD ((e.k,e.v)::EV l2) e.k=_;rw [C7,if_pos rfl]
  ·intro v;show Ez ((e.k,e.v)::EV l2) e.k v=_;rw [Ez,if_pos rfl];rfl
 | x::l1,e,l2,h=>by
  have ih:=Wf (l1:=l1) (e:=e) (l2:=l2) fun y hy=>h y (List.mem_cons_of_mem _ hy)
  have hx:=h x List.mem_cons_self;constructor
  ·show BD ((x.k,x.v)::EV (l1++e::l2)) e.k=_;rw [C7,if_neg (fun y=>hx y.symm),ih.1]
  ·intro v;show Ez ((x.k,x.v)::EV (l1++e::l2)) e.k v=_;rw [Ez,if_neg (fun y=>hx y.symm),ih.2 v];rfl
theorem HY.yes {es ps k} (h:HY es ps) (hk:C1 ps k≠[]):
  ∃ l1 e l2,es=l1++e::l2∧e.k=k∧e.xs=C1 ps k∧BD (EV es) k=some e.v∧∀ v,Ez (EV es) k v=EV l1++(k,v)::EV l2:=by
 obtain ⟨e,he,ek⟩:=h.al k hk;obtain ⟨l1,l2,rfl⟩:=List.append_of_mem he;have hn:=h.nd;rw [List.map_append,List.map_cons,List.nodup_append] at hn;have hl:∀ x∈l1,x.k≠e.k:=fun x hx ex=>hn.2.2 x.k (List.mem_map_of_mem hx) e.k List.mem_cons_self ex
 have:=Wf (l1:=l1) (e:=e) (l2:=l2) hl;rw [ek] at this;exact ⟨l1,e,l2,rfl,ek,by rw [(h.xs e he).1,ek],this.1,this.2⟩
theorem HY.new {es ps p} (h:HY es ps) (hk:C1 ps (kP p)=[]) (ad cap):HY (es++[⟨kP p,ad,cap,[DK p]⟩]) (ps++[p]):=by
 have hne:∀ e∈es,e.k≠kP p:=fun e he ek=>by
  have:=h.xs e he;rw [ek,hk] at this;exact this.2 this.1
 refine ⟨?_,fun e he=>?_,fun k hk2=>?_⟩
 ·rw [List.map_append,List.nodup_append];refine ⟨h.nd,by simp,fun a ha b hb=>?_⟩;obtain ⟨e,he,rfl⟩:=List.mem_map.1 ha;simp only [List.map_cons,List.map_nil,List.mem_singleton] at hb;subst hb;exact hne e he
 ·rcases List.mem_append.1 he with he|he
  ·have:=h.xs e he;rw [E0,if_neg (fun x=>hne e he x.symm)];exact this
  ·obtain rfl:=List.mem_singleton.1 he;show [DK p]=C1 (ps++[p]) (kP p)∧[DK p]≠[];rw [E0,if_pos rfl,hk];exact ⟨rfl,by simp⟩
 ·rw [E0] at hk2;by_cases L:kP p=k
  ·exact ⟨_,List.mem_append_right _ List.mem_cons_self,L⟩
  ·rw [if_neg L] at hk2;obtain ⟨e,he,ek⟩:=h.al k hk2;exact ⟨e,List.mem_append_left _ he,ek⟩
theorem HY.old {l1 l2 e ps p} (h:HY (l1++e::l2) ps) (hk:e.k=kP p) (ad cap):HY (l1++⟨kP p,ad,cap,e.xs++[DK p]⟩::l2) (ps++[p]):=by
 have hn:=h.nd;have hn':=hn;rw [List.map_append,List.map_cons,List.nodup_append] at hn';obtain ⟨n1,n2,n3⟩:=hn';have n4:=(List.nodup_cons.1 n2).1
 have hne:∀ x,x∈l1∨x∈l2→kP p≠x.k:=fun x hx ex=>by
  rcases hx with hx|hx
  ·exact n3 x.k (List.mem_map_of_mem hx) e.k List.mem_cons_self (by rw [hk,ex])
  ·exact n4 (List.mem_map.2 ⟨x,hx,by rw [hk,ex]⟩)
 refine ⟨?_,fun x hx=>?_,fun k hk2=>?_⟩
 ·rw [List.map_append,List.map_cons,← hk];rw [List.map_append,List.map_cons] at hn;exact hn
 ·rcases List.mem_append.1 hx with hx|hx
  ·rw [E0,if_neg (hne x (.inl hx))];exact h.xs x (List.mem_append_left _ hx)
  ·rcases List.mem_cons.1 hx with rfl|hx
   ·show e.xs++[DK p]=C1 (ps++[p]) (kP p)∧_;rw [E0,if_pos rfl,(h.xs e (List.mem_append_right _ List.mem_cons_self)).1,hk];exact ⟨rfl,by simp⟩
   ·rw [E0,if_neg (hne x (.inr hx))];exact h.xs x (List.mem_append_right _ (List.mem_cons_of_mem _ hx))
 ·rw [E0] at hk2;by_cases L:kP p=k
  ·exact ⟨_,List.mem_append_right _ List.mem_cons_self,L⟩
  ·rw [if_neg L] at hk2;obtain ⟨x,hx,ek⟩:=h.al k hk2;rcases List.mem_append.1 hx with hx|hx
   ·exact ⟨x,List.mem_append_left _ hx,ek⟩
   ·rcases List.mem_cons.1 hx with rfl|hx
    ·exact (L (hk.symm.trans ek)).elim
    ·exact ⟨x,List.mem_append_right _ (List.mem_cons_of_mem _ hx),ek⟩
theorem Z6 {α:Type} [Z α] {S v} {xs:List α} (h:RSl S v xs):∃ a n c,v=.slice a n c:=by
 apply jr ()
theorem fE {S v xs} (h:RSl S v xs):∀ x∈xs,Au (DK x):=by
 intro x hx;obtain ⟨i,hi,rfl⟩:=List.getElem_of_mem hx;obtain ⟨cs,hcs⟩:=Lx h hi;exact (CK hcs).choose_spec.2.2.2.2
theorem PW {S:Ad}:∀ {xs:List Int},(∀ x∈xs,Au x)→RL S (cF Ba xs) xs
 | [],_=>RL.nil
 | x::xs,h=>M9 (h x List.mem_cons_self) (PW fun y hy=>h y (List.mem_cons_of_mem _ hy))
theorem On {S:Ad} {w:World}:∀ {es:List Dr} {M:List J},St S (es.map BR++M) w→(∀ e∈es,∀ x∈e.xs,Au x)→∃ S',S.Le S'∧(∀ e∈es,RSl S' e.v e.xs)∧St S' M w
 | [],M,h,_=>⟨S,Ad.Le.refl S,fun e he=>(by cases he),h⟩
 | e::es,M,h,hi=>by
  have h1:St S (es.map BR++(BR e::M)) w:=h.perm (by
   rw [List.map_cons,List.cons_append];exact (List.perm_middle).symm)
  obtain ⟨S1,hS1,hr,h2⟩:=On h1 fun x hx=>hi x (List.mem_cons_of_mem _ hx)
  obtain ⟨S2,hS2,h3,hx⟩:=St.freeze (α:=Int) h2 (PW (hi e List.mem_cons_self)) rfl;refine ⟨S2,hS1.trans hS2,fun x hx2=>?_,h3⟩;rcases List.mem_cons.1 hx2 with rfl|hx2
  ·exact hx
  ·exact (hr x hx2).mono hS2
end Go.Proofs.YtmmbidoldegemaaGreatDoor
namespace Go.Proofs.YtmmbidoldegemaaGreatDoor
open Go.RowKit Go.Sl Go.Srt
def GF (log:List Ev) (r:Int×Int):Prop:=0≤r.1∧0≤r.2∧∃ e,log[r.1.toNat]? = some e∧r.2 < (e.2.2.1.length:Int)
def FB (log:List Ev) (r:Int×Int):Pn :=
 match log[r.1.toNat]? with
 | none=>jp
 | some e=>(r.1,r.2,e.2.2.1.getD r.2.toNat 0,Bk (FM e) r.2.toNat,())
theorem V7 {log:List Ev}:∀ (rs bf:List (Int×Int)),(∀ r∈rs,GF log r)→rs.Nodup→(∀ r∈rs,r ∉ bf)→FE log bf rs=some (rs.map (FB log))
 | [],bf,_,_,_=>rfl
 | r::rs,bf,h,hn,hb=>by
  obtain ⟨h1,h2,e,he,h3⟩:=h r (.head _);have hl:r.1.toNat < log.length:=(List.getElem?_eq_some_iff.1 he).1;obtain ⟨n1,n2⟩:=List.nodup_cons.1 hn;rw [FE,if_neg (by rintro (g|g|g);exact hb r (.head _) g;omega;omega)];rw [he];simp only
  rw [if_neg (by omega),V7 rs (r::bf) (fun x hx=>h x (.tail _ hx)) n2 (fun x hx hc=>by
   rcases List.mem_cons.1 hc with rfl|hc
   ·exact n1 hx
   ·exact hb x (.tail _ hx) hc)]
  simp only [List.map_cons]
  congr 2
  unfold FB;rw [he]
abbrev EM (m:Dg) (log:List Ev) (i:List (Int×Int)):Cz:=(m,log.map AE,i.map (FB log),())
end Go.Proofs.YtmmbidoldegemaaGreatDoor
namespace Go.Proofs.YtmmbidoldegemaaGreatDoor
open Go.RowKit Go.Sl Go.Proofs.Tryz
theorem gi {S cs y} (hR:Z.R S cs y):FN y:=⟨hR.2.1.1,hR.2.2.2.1.1,hR.2.2.2.2.2.1.2,hR.2.2.2.2.2.2.2.1.1,hR.2.2.2.2.2.2.2.2.2.1.1,hR.2.2.2.2.2.2.2.2.2.2.2.1.2⟩
theorem Lf {S v xs} (h:RSl S v xs):∀ x∈xs,FN x:=by
 intro x hx;obtain ⟨i,hi,rfl⟩:=List.getElem_of_mem hx;rcases h with ⟨ad,cap,rfl,rfl,_⟩|⟨b,o,cap,c,T,fz,rfl,_,_,_,hR⟩
 ·simp at hi
 ·exact gi (hR.2 i _ (List.getElem?_eq_getElem hi))
set_option maxRecDepth 20000 in
theorem QP {S M} (w) (V:St S M w) (va vb) (a b:List Hd) (ha:RSl S va a) (hb:RSl S vb b) (hm:a.length≤1048576):
  Ac prog 22 [va,vb] w fun v w'=>v=.bool (decide (a=b))∧St S M w':=by
 unfold Ac;have oa:=Lf ha;have ob:=Lf hb;obtain ⟨R,hR⟩:∃ R,decide (a=b)=R:=⟨_,rfl⟩
 rw [hR];have HR:=Lib.hid hR;clear hR;by_cases hl:a.length=b.length
 ·have HL:=Lib.hid hl;have hbl:b.length≤1048576:=by omega
  have hz:(((a.length:Nat):Int) != ((b.length:Nat):Int))=false:=bne_eq_false_iff_eq.2 (by omega);have hle1:a.length≤b.length:=by omega
  clear hl;go_enter func22,ntmps22;repeat' (first|apply sK ()|(apply O ();go_step)|apply sY ()|fail)
  go_loopw [5,13] (fun _ u13 wr=>∃ i:Nat,i≤a.length∧u13=.int .i64 (i:Int)∧Hid (a.take i=b.take i)∧St S M wr) (fun _ v _=>a.length - (intOf v).toNat)
  case atStart=>exact ⟨0,Nat.zero_le _,rfl,Lib.hid rfl,V⟩
  case round =>
   clear V;obtain ⟨i,hi,rfl,HT,V⟩:=hrel;by_cases hlt:i < a.length
   ·have hltb:i < b.length:=by omega
    have ka:=oa _ (List.getElem_mem hlt);have kb:=ob _ (List.getElem_mem hltb);by_cases he:a[i]=b[i]
    ·have hdc:decide (a[i]=b[i])=true:=decide_eq_true he;have HN:Hid (a.take (i+1)=b.take (i+1)):=Lib.hid (by rw [List.take_succ_eq_append_getElem hlt,List.take_succ_eq_append_getElem hltb,HT.out,he]);clear he;repeat' ((apply ZZ 6);first|(apply O ();go_step)|fail)
     refine AD V kr ?_;clear V;intro ops;apply nZ ();refine td 0 rfl ?_;refine td 1 rfl ?_;refine tx 2 rfl (Aq X Ak rfl Y Y Af Af) ?_;rintro v L;replace L:=iN L;refine tq 3 rfl (by exact BW X Ak Y Y rfl) ?_;refine td 4 rfl ?_;refine td 5 rfl ?_;refine tx 6 rfl (Aq X Ak rfl Y Y Af Af) ?_;rintro v L;replace L:=iN L;refine tq 7 rfl (by exact BW X Ak Y Y rfl) ?_;refine tq 8 rfl (ET rfl rfl (Dw ka) (Dw kb) Y Y Y hdc) ?_;refine AJ kr ?_;clear ops;intro w V;repeat' (first|(apply O ();go_step)|fail)
     apply SN ()
    ·have hdc:decide (a[i]=b[i])=false:=decide_eq_false he
     have HN:Hid (false=R):=Lib.hid (by
      rw [← HR.out]
      symm
      refine decide_eq_false fun e=>he ?_
      subst e;rfl)
     clear he;repeat' ((apply ZZ 6);first|(apply O ();go_step)|fail)
     refine AD V kr ?_;clear V;intro ops;apply nZ ();refine td 0 rfl ?_;refine td 1 rfl ?_;refine tx 2 rfl (Aq X Ak rfl Y Y Af Af) ?_;rintro v L;replace L:=iN L;refine tq 3 rfl (by exact BW X Ak Y Y rfl) ?_;refine td 4 rfl ?_;refine td 5 rfl ?_;refine tx 6 rfl (Aq X Ak rfl Y Y Af Af) ?_;rintro v L;replace L:=iN L;refine tq 7 rfl (by exact BW X Ak Y Y rfl) ?_;refine tq 8 rfl (ET rfl rfl (Dw ka) (Dw kb) Y Y Y hdc) ?_;refine AJ kr ?_;clear ops;intro w V;repeat' (first|(apply O ();go_step)|fail)
     go_ret;exact ⟨_,rfl,by rw [← HN.out];rfl,V⟩
   ·have HN:Hid (true=R):=Lib.hid (by
     have hll:=HL.out;have:=HT.out;rw [List.take_of_length_le (by omega),List.take_of_length_le (by omega)] at this;rw [← HR.out,decide_eq_true this])
    repeat' (first|(apply O ();go_step)|fail)
    go_ret;exact ⟨_,rfl,by rw [← HN.out];rfl,V⟩
 ·have hz:(((a.length:Nat):Int) != ((b.length:Nat):Int))=true:=bne_iff_ne.2 (by omega);have HN:Hid (false=R):=Lib.hid (by rw [← HR.out];exact (decide_eq_false fun e=>hl (by rw [e])).symm);clear hl;go_enter func22,ntmps22;repeat' (first|apply sK ()|(apply O ();go_step)|apply sY ()|fail)
  go_ret;exact ⟨_,rfl,by rw [← HN.out];rfl,V⟩
def DP (h:Hd):Bool:=decide (h.2.2.1 < 0) || decide (h.2.2.1 > 8)
set_option maxRecDepth 20000 in
theorem Zc {S M} (w) (V:St S M w) (h) (hk:FN h):
  Ac prog 45 [Wt h] w fun v w'=>v=.bool (DP h)∧St S M w':=by
 unfold Ac;unfold DP;obtain ⟨z1,hz1⟩:∃ z,decide (h.2.2.1 < 0)=z:=⟨_,rfl⟩
 obtain ⟨z2,hz2⟩:∃ z,decide (h.2.2.1 > 8)=z:=⟨_,rfl⟩
 rw [hz1,hz2];go_enter func45,ntmps45;repeat' ((apply ZZ 1);first|(apply O ();go_step)|(apply sC ();clear V;intro bx w V)|fail)
 obtain ⟨S1,hS1,hst1,L⟩:=AC (α:=Hd) V (Dw hk) (Z.len (Dw (S:=S) hk));clear V;have V:=hst1;clear hst1;generalize Value.pointer (some ⟨_,0,none⟩)=pH at L
 cases z1 with
 | true =>
  repeat' (first|go_skip|apply sK ()|(apply O ();go_step)|(apply tL ();refine An V (Am X Ak Y) ?_;rintro v ⟨rfl,hI⟩<;>apply nZ ())|(apply sJ ();intro v L)|fail)
  go_ret;exact ⟨_,rfl,rfl,St.weaken hS1 V⟩
 | false =>
  repeat' (first|apply sK ()|apply sG ()|(apply O ();go_step)|(apply tL ();refine An V (Am X Ak Y) ?_;rintro v ⟨rfl,hI⟩<;>apply nZ ())|(apply sJ ();intro v L)|fail)
  go_ret;exact ⟨_,rfl,rfl,St.weaken hS1 V⟩
def JB (p:Hd→Bool) (xs:List Hd):Int:=match xs.findIdx? p with|some i=>i|none=>-1
theorem dC (p xs):decide (JB p xs≥0)=xs.any p:=by
 unfold JB
 cases hf:xs.findIdx? p with
 | none =>
  rw [List.findIdx?_eq_none_iff] at hf;have:xs.any p=false:=by rw [List.any_eq_false];intro x hx;simp [hf x hx]
  rw [this];rfl
 | some i =>
  rw [List.findIdx?_eq_some_iff_getElem] at hf;obtain ⟨h,L,_⟩:=hf;have:xs.any p=true:=List.any_eq_true.2 ⟨_,List.getElem_mem h,L⟩;rw [this];exact decide_eq_true (by simp)
theorem Wo {p} {xs:List Hd} {k} (hk:k < xs.length) (hn:(xs.take k).any p=false) (L:p xs[k]=true):JB p xs=k:=by
 have:xs.findIdx? p=some k:=by
  rw [List.findIdx?_eq_some_iff_getElem];refine ⟨hk,L,fun j hj=>?_⟩;rw [List.any_eq_false] at hn;have:=hn xs[j] (by rw [List.mem_take_iff_getElem];exact ⟨j,by omega,rfl⟩)
  simpa using this
 simp [JB,this]
theorem Wp {p xs} (hn:xs.any p=false):JB p xs = -1:=by
 have:xs.findIdx? p=none:=by
  rw [List.findIdx?_eq_none_iff];intro x hx;rw [List.any_eq_false] at hn
  simpa using hn x hx
 simp [JB,this]
theorem Xk (q) (xs:List Hd) {i} (h):(xs.take (i+1)).any q=((xs.take i).any q || q xs[i]):=by
 rw [List.take_succ_eq_append_getElem h,List.any_append];simp
set_option maxRecDepth 20000 in
theorem Zo {S M} (w) (V:St S M w) (vs xs) (hxs:RSl S vs xs) (hm:xs.length≤1048576):
  Ac prog 82 [vs,.func (.func 45) #[] #[]] w fun v w'=>v=.int .i64 (JB DP xs)∧St S M w':=by
 unfold Ac;have ok:=Lf hxs;obtain ⟨R,hR⟩:∃ R,JB DP xs=R:=⟨_,rfl⟩
 rw [hR];have HR:=Lib.hid hR;clear hR;go_enter func82,ntmps82;repeat' (first|(apply O ();go_step)|apply sY ()|fail)
 go_loopw [5,8] (fun _ u8 wr=>∃ i:Nat,i≤xs.length∧u8=.int .i64 (i:Int)∧Hid ((xs.take i).any DP=false)∧St S M wr) (fun _ v _=>xs.length - (intOf v).toNat)
 case atStart=>exact ⟨0,Nat.zero_le _,rfl,Lib.hid rfl,V⟩
 case round =>
  clear V;obtain ⟨i,hi,rfl,HA,V⟩:=hrel;by_cases hlt:i < xs.length
  ·have ki:=ok _ (List.getElem_mem hlt);have hnx:=Xk DP xs hlt;rw [HA.out,Bool.false_or] at hnx;have cK:=fun {M} w (V:St S M w)=>Zc w V xs[i] ki
   cases hz:DP xs[i] with
   | true =>
    have HN:Hid (((i:Nat):Int)=R):=Lib.hid (by rw [← HR.out,Wo hlt HA.out hz]);rw [hz] at cK;clear hnx hz;repeat' (first|(apply O ();go_step)|(apply kc ();refine Eh (cK _ V) rfl Y rfl rfl ?_;clear V;rintro v w ⟨rfl,V⟩<;>apply nZ ()<;>(try replace V:=nH V))|apply sP ()|(apply sJ ();intro v L)|fail)
    go_ret;exact ⟨_,rfl,by rw [← HN.out];rfl,V⟩
   | false =>
    rw [hz] at cK hnx;have HN:=Lib.hid hnx;clear hnx hz;repeat' (first|(apply O ();go_step)|(apply kc ();refine Eh (cK _ V) rfl Y rfl rfl ?_;clear V;rintro v w ⟨rfl,V⟩<;>apply nZ ()<;>(try replace V:=nH V))|apply sP ()|(apply sJ ();intro v L)|fail)
    apply SN ()
  ·have HN:Hid ((-1:Int)=R):=Lib.hid (by
    have:=HA.out;rw [List.take_of_length_le (by omega)] at this;rw [← HR.out,Wp this])
   repeat' (first|(apply O ();go_step)|fail)
   go_ret;exact ⟨_,rfl,by rw [← HN.out];rfl,V⟩
set_option maxRecDepth 20000 in
theorem RE {S M} (w) (V:St S M w) (vs xs) (hxs:RSl S vs xs) (hm:xs.length≤1048576):
  Ac prog 44 [vs,.func (.func 45) #[] #[]] w fun v w'=>v=.bool (xs.any DP)∧St S M w':=by
 unfold Ac;have cI:=fun {M} w (V:St S M w)=>Zo w V vs xs hxs hm
 obtain ⟨z,hz⟩:∃ z,decide (JB DP xs≥0)=z:=⟨_,rfl⟩
 rw [← dC,hz];generalize JB DP xs=q at *;go_enter func44,ntmps44;repeat' (first|apply sK ()|(apply O ();go_step)|(apply kc ();refine sc (cI _ V) ?_;clear V;rintro v w ⟨rfl,V⟩)|fail)
 go_ret;exact ⟨_,rfl,by rw [← hz];rfl,V⟩
set_option maxRecDepth 20000 in
theorem de {S M} (w) (V:St S M w) (n:Nat) (hn:n≤8):
  Ac prog 127 [.int .u64 1,.int .u64 (n:Int)] w fun v w'=>v=.tuple #[.int .u64 0,.int .u64 (n:Int)]∧St S M w':=by
 unfold Ac;obtain rfl|rfl|rfl|rfl|rfl|rfl|rfl|rfl|rfl:n=0∨n=1∨n=2∨n=3∨n=4∨n=5∨n=6∨n=7∨n=8:=by omega
 all_goals
  go_enter func127,ntmps127;repeat' (first|(apply O ();go_step)|fail)
  go_ret2
  exact ⟨_,rfl,rfl,V⟩
set_option maxRecDepth 20000 in
theorem iO {S M} (w) (V:St S M w) (n:Nat) (hn:n≤8):
  Ac prog 85 [.int .u64 1,.int .u64 (n:Int)] w fun v w'=>v=.tuple #[.int .u64 0,.int .u64 (n:Int)]∧St S M w':=by
 unfold Ac;have cM:=fun {M} w (V:St S M w)=>de w V n hn
 go_enter func85,ntmps85;repeat' (first|(apply O ();go_step)|(apply kc ();refine sc (cM _ V) ?_;clear V;rintro v w ⟨rfl,V⟩)|fail)
 go_ret2
 exact ⟨_,rfl,rfl,V⟩
def Hs (n c:Nat):List Value:=List.replicate c (Value.int .i64 (-1))++List.replicate (n - c) (Value.int .i64 0)
theorem Yn {n c m} (hc:c+m≤n) (hm:m≤c):(Hs n c).take (c * 1)++(Hs n c).take (m * 1)++(Hs n c).drop (c * 1+m * 1)=Hs n (c+m):=by
 unfold Hs;simp only [Nat.mul_one];have e1:(List.replicate c (Value.int .i64 (-1))++List.replicate (n - c) (Value.int .i64 0)).take c=List.replicate c (Value.int .i64 (-1)):=List.take_left' (by simp)
 have e2:(List.replicate c (Value.int .i64 (-1))++List.replicate (n - c) (Value.int .i64 0)).take m=List.replicate m (Value.int .i64 (-1)):=by
  rw [List.take_append_of_le_length (by simp;omega),List.take_replicate,Nat.min_eq_left hm]
 have e3:(List.replicate c (Value.int .i64 (-1))++List.replicate (n - c) (Value.int .i64 0)).drop (c+m)=List.replicate (n - (c+m)) (Value.int .i64 0):=by
  rw [List.drop_append,List.drop_of_length_le (by simp),List.nil_append,List.length_replicate,List.drop_replicate]
  congr 1;omega
 rw [e1,e2,e3,List.replicate_append_replicate]
theorem bw (n):Hs n n=cF Ba (List.replicate n (-1)):=by
 unfold Hs;rw [Nat.sub_self,List.replicate_zero,List.append_nil]
 induction n with
 | zero=>rfl
 | succ n ih=>rw [List.replicate_succ,List.replicate_succ];show _::_=Value.int .i64 (-1)::cF Ba (List.replicate n (-1));rw [ih]
theorem bu (n c):∀ a∈Hs n c,a.oneCell'=true:=by
 intro a ha;unfold Hs at ha;rcases List.mem_append.1 ha with ha|ha
 ·rw [List.eq_of_mem_replicate ha];rfl
 ·rw [List.eq_of_mem_replicate ha];rfl
theorem Ym (n):(List.replicate n ([.int .i64 0]:List Value)).flatten=Hs n 0:=by
 unfold Hs;rw [List.replicate_zero,List.nil_append,Nat.sub_zero]
 induction n with
 | zero=>rfl
 | succ n ih=>rw [List.replicate_succ,List.replicate_succ,List.flatten_cons,ih];rfl
theorem VB {n} (h:1≤n):([.int .i64 (-1)]:List Value)++(Hs n 0).drop (1 * 1)=Hs n 1:=by
 unfold Hs;rw [List.replicate_zero,List.nil_append,Nat.sub_zero,List.drop_replicate];rfl
theorem iE {S c} (h:RL S c ([-1]:List Int)):c=[.int .i64 (-1)]:=by
 have h1:=h.2 0 (-1) rfl;have hl:c.length=1:=h.1
 match c,hl with
 | [a],_=>exact h1.1
theorem bn {P ops rest} {Q:Exit→Act→World→Prop} {l D w ty pos af S M d x y u t tx E e' agg z cap ad zero bb} {xs:List Int} (V:St S M w) (hx:Ai l x=.slice ad 0 cap) (hy:Ai l y=u) (hu:RSl S u xs) (hT:SlT P t E) (hE:Ty P E agg z zero bb) (hU:SlT P tx e') (h:wpList P ops Q rest ⟨(l.set d (.int .i64 0)).toArray,D⟩ w):
  wpList P ops Q (⟨some d,.call { callee:=.builtin .copy,args:=#[x,y],argTypes:=#[t,tx] },ty,pos,af,none⟩::rest) ⟨l.toArray,D⟩ w:=by
 obtain ⟨i,hi,hiz,his,hib⟩:=hE.run_bytes;refine BK (v:=.int .i64 0) (w':=w) ?_ h
 have hl:∃ a n c,u=.slice a n c:=by
  rcases hu with ⟨ad,cap,rfl,_⟩|⟨b,o,cap,c,T,fz,rfl,_⟩
  ·exact ⟨_,_,_,rfl⟩
  ·exact ⟨_,_,_,rfl⟩
 obtain ⟨a,n,c,rfl⟩:=hl
 have hf:(Builtin.firstCells z 0 (.slice a n c)).run P w=.ok #[] w:=by
  cases a with
  | none=>rfl
  | some a=>exact run_firstCells_some w z 0 a n c [] (by simp) (fun j v hj=>by simp at hj)
 have hmin:Nat.min n 0=0:=Nat.min_zero n
 cases ad with
 | none=>simp [execOp,resolve,invoke,builtin,hx,hy,goInt,Builtin.copy_,run_underlying hT.u,sizeOf,typeInfo,hi,his,Builtin.lenOf,hmin,hf]
 | some q=>simp [execOp,resolve,invoke,builtin,hx,hy,goInt,Builtin.copy_,run_underlying hT.u,sizeOf,typeInfo,hi,his,Builtin.lenOf,hmin,hf,storeCells]
set_option maxRecDepth 20000 in
theorem Yv {S M} (w) (V:St S M w) (vx) (hx:RSl S vx ([-1]:List Int)) (n:Nat) (hn:n≤8):
  Ac prog 47 [vx,.int .i64 (n:Int)] w fun v w'=>∃ ad cap,v=.slice ad n cap∧St S (.sl (.slice ad n cap) 3 1 n (cF Ba (List.replicate n (-1)))::M) w':=by
 unfold Ac;have cM:=fun {M} w (V:St S M w)=>iO w V n hn
 have hnn:¬ ((n:Int) < 0):=by omega
 go_enter func47,ntmps47;repeat' ((apply ZZ 4);first|(apply tV ();with_unfolding_all refine Ag V (EU (m:=(1:Int)) rfl Y Y (by decide)) ?_<;>apply nZ ())|(apply O ();go_step)|(apply kc ();refine sc (cM _ V) ?_;clear V;rintro v w ⟨rfl,V⟩)|apply sY ()|fail)
 have hg1:decide ((n:Int) > 9223372036854775807)=false:=decide_eq_false (by omega);repeat' ((apply ZZ 6);first|apply sK ()|apply sG ()|(apply O ();go_step)|fail)
 repeat' (first|(apply tV ();with_unfolding_all refine Ag V (EU (m:=(n:Int)) rfl Y Y (Lt ⟨by omega,by omega⟩)) ?_<;>apply nZ ())|(apply O ();go_step)|fail)
 refine JI (n:=n) V Y Y X X (by omega) (by omega) ?_;clear V;intro v w V;apply nZ ();rw [Ym] at V;have hone:=BE (k:=0) V rfl;obtain ⟨a0,k0,rfl⟩:=Go.Sl.sl_formk (k:=0) V rfl;by_cases h0:n=0
 ·subst h0;repeat' (first|(apply O ();go_step)|fail)
  refine bn V X X hx Y Y Y ?_;apply nZ ();repeat' (first|(apply O ();go_step)|fail)
  go_loopw [8] (fun u8 wr=>u8=.int .i64 0∧St S (.sl (.slice a0 0 k0) 3 1 0 (Hs 0 0)::M) wr) (fun _ _=>0)
  case atStart=>exact ⟨rfl,V⟩
  case round =>
   clear V;obtain ⟨rfl,V⟩:=hrel;repeat' (first|(apply O ();go_step)|apply sY ()|fail)
   go_ret;exact ⟨_,rfl,a0,k0,rfl,V⟩
 ·obtain ⟨c1,hs1,hc1⟩:=Src.data (P:=prog) (tx:=52) V hx (SlT.u (E:=3));obtain rfl:c1=[.int .i64 (-1)]:=iE hc1;repeat' (first|(apply O ();go_step)|fail)
  refine eR (k:=0) (m:=1) V X X rfl Y Y hs1 (by simp [Value.oneCell']) (by omega) ?_;clear V;intro w V;apply nZ ()
  have hst0:St S (.sl (.slice a0 n k0) 3 1 n (Hs n 1)::M) w:=by
   rw [← VB (by omega)];exact V
  clear V hs1 hc1;have V:=hst0;clear hst0;repeat' (first|(apply O ();go_step)|fail)
  go_loopw [8] (fun u8 wr=>∃ c:Nat,1≤c∧c≤n∧u8=.int .i64 (c:Int)∧St S (.sl (.slice a0 n k0) 3 1 n (Hs n c)::M) wr) (fun v _=>n - (intOf v).toNat)
  case atStart=>exact ⟨1,by omega,by omega,rfl,V⟩
  case round =>
   clear V;obtain ⟨c,hc1,hc2,rfl,V⟩:=hrel;by_cases hlt:c < n
   ·obtain ⟨m,hm,hm1,hm2⟩:∃ m:Nat,m=min c (n - c)∧1≤m∧c+m≤n:=⟨min c (n - c),rfl,by omega,by omega⟩
    have hmc:m≤c:=by omega
    have HS:=Lib.hid (Yn hm2 hmc);have HO:=Lib.hid (bu n c);have HM:=Lib.hid hm;clear hm;repeat' ((apply ZZ 9);first|(apply O ();go_step)|apply sY ()|fail)
    refine Bm V kr ?_;clear V;intro w V;have hSS:=Cn V;apply nZ ();refine pd 0 rfl ?_;refine pd 1 rfl ?_;refine pd 2 rfl ?_;refine pd 4 rfl ?_;refine pd 5 rfl ?_;refine Cp 3 6 rfl rfl kr ?_ ?_;intro K G;refine An V (R5 (a:=c) V X SlIn.h rfl Y Y hlt) ?_;rintro v3 ht3;refine pn G ?_;clear G K;refine po 6 rfl ?_;intro K G;refine An V (OS (b:=c) V X SlIn.h rfl Y Y (by omega) (by omega)) ?_;rintro v6 hp6;refine pn G ?_;clear G K;refine po 7 rfl ?_;intro K G;refine ON (m:=m) (o:=c) V X X SlIn.h ht3 hp6 Y Y HO.out (by omega) (by omega) HM.out ?_;clear V;intro w V;simp only [List.set_cons_zero] at V;rw [HS.out] at V;(try replace V:=nH V);refine pn G ?_;clear G K;refine pt 8 rfl (by exact DC rfl rfl Af) ?_;refine pd 9 rfl ?_;refine AK kr ?_;rotate_left;intro K G;refine An V (OS (b:=c) V X SlIn.h rfl Y Y (by omega) (by omega)) ?_;rintro v6 hp6;refine pn G ?_;clear G K;refine po 3 rfl ?_;intro K G;refine An V (R5 (a:=c) V X SlIn.h rfl Y Y hlt) ?_;rintro v3 ht3;refine pn G ?_;clear G K;refine po 7 rfl ?_;intro K G;refine ON (m:=m) (o:=c) V X X SlIn.h ht3 hp6 Y Y HO.out (by omega) (by omega) HM.out ?_;clear V;intro w V;simp only [List.set_cons_zero] at V;rw [HS.out] at V;(try replace V:=nH V);refine pn G ?_;clear G K;refine pt 8 rfl (by exact DC rfl rfl Af) ?_;refine pd 9 rfl ?_;refine AK kr ?_;rotate_left
    all_goals
     repeat' (first|(apply O ();go_step)|fail)
     go_roundw
     case rel=>exact ⟨c+m,by omega,hm2,by go_num,V⟩
     case measure=>simp [intOf];omega
   ·obtain rfl:c=n:=by omega
    repeat' (first|(apply O ();go_step)|apply sY ()|fail)
    go_ret;exact ⟨_,rfl,a0,k0,rfl,by rw [← bw];exact V⟩
def Gw (outs:List (List Int)) (p:Pn):List (List Int):=outs.modify p.1.toNat fun o=>o.set p.2.1.toNat p.2.2.1
def Ed (hs:List Hd):List (List Int):=hs.map fun h=>List.replicate h.2.2.1.toNat (-1)
def LF (hs:List Hd) (ps:List Pn):List (List Int):=ps.foldl Gw (Ed hs)
def GI:List Pg→List Hd→List (List Int)→List (List Int)→Option (List (List Int))
 | p::ps,h::hs,o::os,acc =>
   if p.2.1.length=0 then GI ps hs os (acc++[o])
   else match DS (BM p.2.1 p.2.2.1 p.2.2.2.1) o with
    | none=>none
    | some l=>if p.2.2.2.1≠h.2.2.1 then none else GI ps hs os (acc++[l])
 | _,_,_,acc=>some acc
def Wg:Option (List (List Int))→List (List Int)×Int
 | none=>([],16)
 | some o=>(o,0)
def FV (ev:Cz) (ps:List Pg):List (List Int)×Int :=
 if ps.length≠ev.2.1.length∨ev.2.1.any DP=true then ([],1)
 else if CX ev.2.1 [] ev.2.2.1≠0 then ([],((CX ev.2.1 [] ev.2.2.1:Nat):Int))
 else Wg (GI ps ev.2.1 (LF ev.2.1 ev.2.2.1) [])
theorem VY (a Lqq e M):List.Perm (BR e::a::(Lqq.map BR++M)) (a::((Lqq++[e]).map BR++M)):=by
 have h1:((Lqq++[e]).map BR++M)=Lqq.map BR++(BR e::M):=by simp
 rw [h1];exact (List.Perm.swap a (BR e) _).trans (List.Perm.cons a List.perm_middle.symm)
theorem OY (a l1 l2 e M):List.Perm (BR e::a::((l1++l2).map BR++M)) (a::((l1++e::l2).map BR++M)):=by
 have h1:((l1++e::l2).map BR++M)=l1.map BR++(BR e::(l2.map BR++M)):=by simp
 have h2:((l1++l2).map BR++M)=l1.map BR++(l2.map BR++M):=by simp
 rw [h1,h2];exact (List.Perm.swap a (BR e) _).trans (List.Perm.cons a List.perm_middle.symm)
theorem VZ (a) (Lqq:List Dr) (M):List.Perm (a::(Lqq.map BR++M)) (Lqq.map BR++(a::M)):=List.perm_middle.symm
theorem TM {hs:List Hd} {i} (h):Ed (hs.take (i+1))=Ed (hs.take i)++[List.replicate (hs[i]).2.2.1.toNat (-1)]:=by
 unfold Ed;rw [List.take_succ_eq_append_getElem h,List.map_append];rfl
theorem Vs (outs p):(Gw outs p).map List.length=outs.map List.length:=by
 unfold Gw;apply List.ext_getElem?;intro i;rw [List.getElem?_map,List.getElem?_map,List.getElem?_modify]
 cases outs[i]? with
 | none=>simp
 | some o=>by_cases h:p.1.toNat=i<;>simp [h]
theorem Jj:∀ (ps:List Pn) (outs:List (List Int)),(ps.foldl Gw outs).map List.length=outs.map List.length
 | [],outs=>rfl
 | p::ps,outs=>by rw [List.foldl_cons,Jj ps,Vs]
theorem YE {hs:List Hd} {ps} (hc:CX hs [] ps=0) (es k) (hk:k < ps.length) (he:es.map (·.xs)=(ps.take k).foldl Gw (Ed hs)):
  ∃ l1 e l2,es=l1++e::l2∧(ps[k]).1=((l1.length:Nat):Int)∧0≤(ps[k]).2.1∧(ps[k]).2.1.toNat < e.xs.length ∧
   (∀ e':Dr,e'.xs=e.xs.set (ps[k]).2.1.toNat (ps[k]).2.2.1→(l1++e'::l2).map (·.xs)=(ps.take (k+1)).foldl Gw (Ed hs)):=by
 obtain ⟨h0,h,hh,q0,q1,_⟩:=WR ps [] hc _ (List.getElem_mem hk)
 have hl:es.length=hs.length:=by
  have:=congrArg List.length he;have h2:=congrArg List.length (Jj (ps.take k) (Ed hs));simp only [List.length_map] at this h2;rw [this,h2];unfold Ed;rw [List.length_map]
 have hj:(ps[k]).1.toNat < es.length:=by rw [hl];exact (List.getElem?_eq_some_iff.1 hh).1
 have hsp:es=es.take (ps[k]).1.toNat++es[(ps[k]).1.toNat]::es.drop ((ps[k]).1.toNat+1):=by
  rw [← List.drop_eq_getElem_cons hj,List.take_append_drop]
 have hl1:(es.take (ps[k]).1.toNat).length=(ps[k]).1.toNat:=by rw [List.length_take];omega
 refine ⟨es.take (ps[k]).1.toNat,es[(ps[k]).1.toNat],es.drop ((ps[k]).1.toNat+1),hsp,by rw [hl1];omega,q0,?_,?_⟩
 ·have hln:(es[(ps[k]).1.toNat]).xs.length=h.2.2.1.toNat:=by
   have h3:=Jj (ps.take k) (Ed hs);rw [← he,List.map_map] at h3;have h4:=congrArg (fun l=>l[(ps[k]).1.toNat]?) h3;simp only [List.getElem?_map,Ed,List.map_map] at h4;rw [List.getElem?_eq_getElem hj,hh] at h4
   simpa using h4
  rw [hln];omega
 ·intro e' he';rw [List.take_succ_eq_append_getElem hk,List.foldl_append,← he];show _=Gw (es.map (·.xs)) ps[k];unfold Gw;apply List.ext_getElem?;intro i;rw [List.getElem?_modify,List.getElem?_map,List.getElem?_map];by_cases hi:(ps[k]).1.toNat=i
  ·subst hi;rw [List.getElem?_append_right (by omega),hl1,Nat.sub_self,List.getElem?_cons_zero,List.getElem?_eq_getElem hj];simp [he']
  ·rcases Nat.lt_or_ge i (ps[k]).1.toNat with hlt|hge
   ·rw [List.getElem?_append_left (by omega),List.getElem?_take,if_pos hlt]
    cases es[i]?<;>simp [hi]
   ·rw [List.getElem?_append_right (by omega),hl1];obtain ⟨d,hd⟩:∃ d,i - (ps[k]).1.toNat=d+1:=⟨i - (ps[k]).1.toNat - 1,by omega⟩
    rw [hd,List.getElem?_cons_succ,List.getElem?_drop,show (ps[k]).1.toNat+1+d=i by omega]
    cases es[i]?<;>simp [hi]
theorem R4 {S:Ad}:∀ {es:List Dr},(∀ e∈es,RSl S e.v e.xs)→RL S (es.map Dr.v) (es.map (·.xs))
 | [],_=>RL.nil
 | e::es,h=>DX (h e List.mem_cons_self) (R4 fun x hx=>h x (List.mem_cons_of_mem _ hx))
theorem gH {ev} (h:ev.2.1.any DP=false) (ok:Ox ev):∀ x∈ev.2.1,∃ n:Nat,x.2.2.1=(n:Int)∧n≤8:=fun x hx=>by
 rw [List.any_eq_false] at h;have:=h x hx;unfold DP at this;simp only [Bool.or_eq_true,decide_eq_true_eq] at this;exact ⟨x.2.2.1.toNat,by omega,by omega⟩
theorem dE {es:List Dr} (h:∀ e∈es,∀ x∈e.xs,Au x) (n) {k ad cap}:∀ e∈es++[⟨k,ad,cap,List.replicate n (-1)⟩],∀ x∈e.xs,Au x:=fun e he x hx=>by
 rcases List.mem_append.1 he with he|he
 ·exact h e he x hx
 ·obtain rfl:=List.mem_singleton.1 he;obtain rfl:=List.eq_of_mem_replicate hx;unfold Au;omega
theorem dD {l1 l2:List Dr} {k ad cap xs t} (h:∀ e∈l1++⟨k,ad,cap,xs⟩::l2,∀ x∈e.xs,Au x) (ht:Au t) {q} (k2 ad2 cap2):∀ e∈l1++⟨k2,ad2,cap2,xs.set q t⟩::l2,∀ x∈e.xs,Au x:=fun e he x hx=>by
 rcases List.mem_append.1 he with he|he
 ·exact h e (List.mem_append_left _ he) x hx
 ·rcases List.mem_cons.1 he with rfl|he
  ·rcases List.mem_or_eq_of_mem_set hx with hx|rfl
   ·exact h _ (List.mem_append_right _ List.mem_cons_self) x hx
   ·exact ht
  ·exact h e (List.mem_append_right _ (List.mem_cons_of_mem _ he)) x hx
theorem dW (l1 e l2):(((l1++e::l2).map Dr.v).drop (l1.length * 1)).take 1=[e.v]:=by
 rw [Nat.mul_one,List.map_append,List.drop_left' (by simp),List.map_cons,List.take_succ_cons,List.take_zero]
theorem WV (l1 k ad cap xs) (l2:List Dr) (q t):(l1++⟨k,ad,cap,xs.set q t⟩::l2).map Dr.v=(l1++⟨k,ad,cap,xs⟩::l2).map Dr.v:=by
 rw [List.map_append,List.map_append,List.map_cons,List.map_cons];show _++(Value.slice ad (xs.set q t).length cap::_)=_;rw [List.length_set]
theorem V0 {hs:List Hd} (h:∀ x∈hs,∃ n:Nat,x.2.2.1=(n:Int)∧n≤8) (ps:List Pn):∀ o∈ps.foldl Gw (Ed hs),o.length≤8:=fun o ho=>by
 have h1:o.length∈(ps.foldl Gw (Ed hs)).map List.length:=List.mem_map_of_mem ho;rw [Jj] at h1;unfold Ed at h1;rw [List.map_map,List.mem_map] at h1;obtain ⟨x,hx,e⟩:=h1;obtain ⟨n,hn,h8⟩:=h x hx;simp only [Function.comp_apply,List.length_replicate] at e;omega
theorem bg {α:Type} {acc os:List α} {o l k} (h:acc.length=k):(acc++o::os).set k l=acc++[l]++os:=by
 subst h;rw [List.set_append_right _ _ (Nat.le_refl _),Nat.sub_self,List.set_cons_zero,List.append_assoc];rfl
theorem Qo {hs:List Hd} {os acc}:GI [] hs os acc=some acc:=by simp [GI]
theorem fh {S c} {xs:List (List Int)} (h:RL S c xs):∀ o∈xs,∀ x∈o,Au x:=fun o ho x hx=>by
 obtain ⟨i,hi,rfl⟩:=List.getElem_of_mem ho;obtain ⟨v,_,hr⟩:=h.2 i _ (List.getElem?_eq_getElem hi);obtain ⟨j,hj,rfl⟩:=List.getElem_of_mem hx;obtain ⟨cs,hcs⟩:=Lx hr hj;exact hcs.2
theorem dt {p ps h} {hs:List Hd} {o} {os acc} (hz:p.2.1.length=0):GI (p::ps) (h::hs) (o::os) acc=GI ps hs os (acc++[o]):=by rw [GI,if_pos hz]
theorem du {p ps h} {hs:List Hd} {o} {os acc} (hz:¬ p.2.1.length=0) (hi:DS (BM p.2.1 p.2.2.1 p.2.2.2.1) o=none):GI (p::ps) (h::hs) (o::os) acc=none:=by rw [GI,if_neg hz,hi]
theorem Oi {p ps h} {hs:List Hd} {o l} {os acc} (hz:¬ p.2.1.length=0) (hi:DS (BM p.2.1 p.2.2.1 p.2.2.2.1) o=some l):GI (p::ps) (h::hs) (o::os) acc=if p.2.2.2.1≠h.2.2.1 then none else GI ps hs os (acc++[l]):=by rw [GI,if_neg hz,hi]
instance me:Key prog 50 Rg 3:=by
 refine Km (d:=2) underlying50 kr kr ?_;simp only [List.toList_toArray]
 haveI k2:KeyFs prog [] 32 Unit 0:=Lb
 exact Ds (d:=2) (d':=2) rfl kr (kb:=Ds (d:=2) (d':=0) rfl kr (kb:=k2))
instance mV:EqTy prog 50:=⟨by kernel_rfl,by kernel_rfl,by kernel_rfl⟩
def J4 (ev:Cz) (r:Rg):Int:=if CX ev.2.1 [] ev.2.2.1≠0 then ((CX ev.2.1 [] ev.2.2.1:Nat):Int) else if DL ev.1 ev.2.1=r then 0 else 16
theorem Ll {S M} (w) (V:St S M w) (hG:Bu S) (cs ev) (hR:Z.R S cs ev) (ok:Ox ev) (r) (hr:EP r):
  Ac prog 19 [.agg cs.toArray,L4 r] w fun v w'=>v=.int .i64 (J4 ev r)∧St S M w':=by
 unfold Ac;obtain ⟨R,hRR⟩:∃ R,J4 ev r=R:=⟨_,rfl⟩
 rw [hRR];have HR:=Lib.hid hRR;clear hRR;go_enter func19,ntmps19;repeat' ((apply ZZ 1);first|(apply O ();go_step)|(apply sC ();clear V;intro bx w V)|fail)
 obtain ⟨S1,hS1,hst1,hpr⟩:=AC (α:=Rg) V (Dm hr) (Z.len (Dm (S:=S) hr));generalize Value.pointer (some ⟨bx,0,none⟩)=pR at *;clear V;rename Nat=>bz
 obtain ⟨S2,hS2,V,hpe⟩:=AC (α:=Cz) hst1 (Z.mono hS1 hR) (Z.len hR);clear hst1;replace hpr:=Pt.mono hS2 hpr;generalize Value.pointer (some ⟨bx,0,none⟩)=pE at *;have hG2:=Bu.mono (hS1.trans hS2) hG;have cC:=fun {M} w (V:St S2 M w) cl (hR:Z.R S2 cl ev)=>SJ w V hG2 cl ev hR ok
 have cG:=fun {M} w (V:St S2 M w) cl (hR:Z.R S2 cl ev)=>Ro w V hG2 cl ev hR hR.2.1.1 (fun h hh=>(ok.hd h hh).1) ok.nh
 have hok:=LD ev.1 ev.2.1;unfold J4 at HR;generalize CX ev.2.1 [] ev.2.2.1=c at *;generalize DL ev.1 ev.2.1=q at *;have hle:=hS1.trans hS2;clear hS1 hS2 hR;by_cases h0:c=0
 ·subst h0;by_cases hq:q=r
  ·have hdc:decide (q=r)=true:=decide_eq_true hq;have HN:Hid ((0:Int)=R):=Lib.hid (by rw [← HR.out,if_neg (by decide),if_pos hq]);apply ku ()
  ·have hdc:decide (q=r)=false:=decide_eq_false hq;have HN:Hid ((16:Int)=R):=Lib.hid (by rw [← HR.out,if_neg (by decide),if_neg hq]);apply ku ()
 ·have hz:(((c:Nat):Int) != 0)=true:=bne_iff_ne.2 (by omega);have HN:Hid (((c:Nat):Int)=R):=Lib.hid (by rw [← HR.out,if_pos h0]);clear HR h0;repeat' (first|apply sK ()|(apply O ();go_step)|(apply tL ();refine An V (Aw (y:=ev) X hpe Y) ?_;rintro v34 ⟨c34,rfl,hc34⟩<;>apply nZ ())|(apply kc ();refine sc (cC _ V c34 hc34) ?_;clear V;rintro v w ⟨rfl,V⟩)|fail)
  go_ret;exact ⟨_,rfl,by rw [← HN.out];rfl,St.weaken hle V⟩
end Go.Proofs.YtmmbidoldegemaaGreatDoor
