/- Part 40 of a proof; no conditions. -/
import Derived.Test.YtmmbidoldegemaaGreatDoorZ18
import Derived.Test.YtmmbidoldegemaaGreatDoorZ38
set_option linter.all false
set_option maxRecDepth 8000
set_option maxHeartbeats 8000000
namespace Go.Proofs.YtmmbidoldegemaaGreatDoor
open Go.RowKit Go.Sl Go.Proofs.Tryz
def DP (h:Hd):Bool:=decide (h.2.2.1 < 0) || decide (h.2.2.1 > 8)
set_option maxRecDepth 20000 in
theorem Zc {S M} (w) (V:St S M w) (h) (hk:FN h):
  Ac prog 45 [Wt h] w fun v w'=>v=.bool (DP h)∧St S M w':=by
 unfold Ac;unfold DP;obtain ⟨z1,hz1⟩:∃ z,decide (h.2.2.1 < 0)=z:=⟨_,rfl⟩
 obtain ⟨z2,hz2⟩:∃ z,decide (h.2.2.1 > 8)=z:=⟨_,rfl⟩
 rw [hz1,hz2];go_enter func45,ntmps45;repeat' ((apply ZZ 1);first|(apply O ();go_step)|(apply sC ();clear V;intro bx w V)|fail)
 obtain ⟨S1,hS1,hst1,L⟩:=AC (α:=Hd) V (Dw hk) (Z.len (Dw (S:=S) hk));clear V;have V:=hst1;clear hst1;generalize Value.pointer (some ⟨_,0,none⟩)=pH at L
 cases z1 with
 | true =>
  repeat' (first|go_skip|apply sK ()|(apply O ();go_step)|(apply tL ();refine An V (Am X Ak Y) ?_;rintro v ⟨rfl,hI⟩<;>apply nZ ())|(apply sJ ();intro v L)|fail)
  go_ret;exact ⟨_,rfl,rfl,St.weaken hS1 V⟩
 | false =>
  repeat' (first|apply sK ()|apply sG ()|(apply O ();go_step)|(apply tL ();refine An V (Am X Ak Y) ?_;rintro v ⟨rfl,hI⟩<;>apply nZ ())|(apply sJ ();intro v L)|fail)
  go_ret;exact ⟨_,rfl,rfl,St.weaken hS1 V⟩
def JB (p:Hd→Bool) (xs:List Hd):Int:=match xs.findIdx? p with|some i=>i|none=>-1
theorem dC (p xs):decide (JB p xs≥0)=xs.any p:=by
 unfold JB
 cases hf:xs.findIdx? p with
 | none =>
  rw [List.findIdx?_eq_none_iff] at hf;have:xs.any p=false:=by rw [List.any_eq_false];intro x hx;simp [hf x hx]
  rw [this];rfl
 | some i =>
  rw [List.findIdx?_eq_some_iff_getElem] at hf;obtain ⟨h,L,_⟩:=hf;have:xs.any p=true:=List.any_eq_true.2 ⟨_,List.getElem_mem h,L⟩;rw [this];exact decide_eq_true (by simp)
theorem Wo {p} {xs:List Hd} {k} (hk:k < xs.length) (hn:(xs.take k).any p=false) (L:p xs[k]=true):JB p xs=k:=by
 have:xs.findIdx? p=some k:=by
  rw [List.findIdx?_eq_some_iff_getElem];refine ⟨hk,L,fun j hj=>?_⟩;rw [List.any_eq_false] at hn;have:=hn xs[j] (by rw [List.mem_take_iff_getElem];exact ⟨j,by omega,rfl⟩)
  simpa using this
 simp [JB,this]
theorem Wp {p xs} (hn:xs.any p=false):JB p xs = -1:=by
 have:xs.findIdx? p=none:=by
  rw [List.findIdx?_eq_none_iff];intro x hx;rw [List.any_eq_false] at hn
  simpa using hn x hx
 simp [JB,this]
theorem Xk (q) (xs:List Hd) {i} (h):(xs.take (i+1)).any q=((xs.take i).any q || q xs[i]):=by
 rw [List.take_succ_eq_append_getElem h,List.any_append];simp
set_option maxRecDepth 20000 in
theorem Zo {S M} (w) (V:St S M w) (vs xs) (hxs:RSl S vs xs) (hm:xs.length≤1048576):
  Ac prog 82 [vs,.func (.func 45) #[] #[]] w fun v w'=>v=.int .i64 (JB DP xs)∧St S M w':=by
 unfold Ac;have ok:=Lf hxs;obtain ⟨R,hR⟩:∃ R,JB DP xs=R:=⟨_,rfl⟩
 rw [hR];have HR:=Lib.hid hR;clear hR;go_enter func82,ntmps82;repeat' (first|(apply O ();go_step)|apply sY ()|fail)
 go_loopw [5,8] (fun _ u8 wr=>∃ i:Nat,i≤xs.length∧u8=.int .i64 (i:Int)∧Hid ((xs.take i).any DP=false)∧St S M wr) (fun _ v _=>xs.length - (intOf v).toNat)
 case atStart=>exact ⟨0,Nat.zero_le _,rfl,Lib.hid rfl,V⟩
 case round =>
  clear V;obtain ⟨i,hi,rfl,HA,V⟩:=hrel;by_cases hlt:i < xs.length
  ·have ki:=ok _ (List.getElem_mem hlt);have hnx:=Xk DP xs hlt;rw [HA.out,Bool.false_or] at hnx;have cK:=fun {M} w (V:St S M w)=>Zc w V xs[i] ki
   cases hz:DP xs[i] with
   | true =>
    have HN:Hid (((i:Nat):Int)=R):=Lib.hid (by rw [← HR.out,Wo hlt HA.out hz]);rw [hz] at cK;clear hnx hz;repeat' (first|(apply O ();go_step)|(apply kc ();refine Eh (cK _ V) rfl Y rfl rfl ?_;clear V;rintro v w ⟨rfl,V⟩<;>apply nZ ()<;>(try replace V:=nH V))|apply sP ()|(apply sJ ();intro v L)|fail)
    go_ret;exact ⟨_,rfl,by rw [← HN.out];rfl,V⟩
   | false =>
    rw [hz] at cK hnx;have HN:=Lib.hid hnx;clear hnx hz;repeat' (first|(apply O ();go_step)|(apply kc ();refine Eh (cK _ V) rfl Y rfl rfl ?_;clear V;rintro v w ⟨rfl,V⟩<;>apply nZ ()<;>(try replace V:=nH V))|apply sP ()|(apply sJ ();intro v L)|fail)
    apply SN ()
  ·have HN:Hid ((-1:Int)=R):=Lib.hid (by
    have:=HA.out;rw [List.take_of_length_le (by omega)] at this;rw [← HR.out,Wp this])
   repeat' (first|(apply O ();go_step)|fail)
   go_ret;exact ⟨_,rfl,by rw [← HN.out];rfl,V⟩
set_option maxRecDepth 20000 in
theorem RE {S M} (w) (V:St S M w) (vs xs) (hxs:RSl S vs xs) (hm:xs.length≤1048576):
  Ac prog 44 [vs,.func (.func 45) #[] #[]] w fun v w'=>v=.bool (xs.any DP)∧St S M w':=by
 unfold Ac;have cI:=fun {M} w (V:St S M w)=>Zo w V vs xs hxs hm
 obtain ⟨z,hz⟩:∃ z,decide (JB DP xs≥0)=z:=⟨_,rfl⟩
 rw [← dC,hz];generalize JB DP xs=q at *;go_enter func44,ntmps44;repeat' (first|apply sK ()|(apply O ();go_step)|(apply kc ();refine sc (cI _ V) ?_;clear V;rintro v w ⟨rfl,V⟩)|fail)
 go_ret;exact ⟨_,rfl,by rw [← hz];rfl,V⟩
set_option maxRecDepth 20000 in
theorem de {S M} (w) (V:St S M w) (n:Nat) (hn:n≤8):
  Ac prog 127 [.int .u64 1,.int .u64 (n:Int)] w fun v w'=>v=.tuple #[.int .u64 0,.int .u64 (n:Int)]∧St S M w':=by
 unfold Ac;obtain rfl|rfl|rfl|rfl|rfl|rfl|rfl|rfl|rfl:n=0∨n=1∨n=2∨n=3∨n=4∨n=5∨n=6∨n=7∨n=8:=by omega
 all_goals
  go_enter func127,ntmps127;repeat' (first|(apply O ();go_step)|fail)
  go_ret2
  exact ⟨_,rfl,rfl,V⟩
set_option maxRecDepth 20000 in
theorem iO {S M} (w) (V:St S M w) (n:Nat) (hn:n≤8):
  Ac prog 85 [.int .u64 1,.int .u64 (n:Int)] w fun v w'=>v=.tuple #[.int .u64 0,.int .u64 (n:Int)]∧St S M w':=by
 unfold Ac;have cM:=fun {M} w (V:St S M w)=>de w V n hn
 go_enter func85,ntmps85;repeat' (first|(apply O ();go_step)|(apply kc ();refine sc (cM _ V) ?_;clear V;rintro v w ⟨rfl,V⟩)|fail)
 go_ret2
 exact ⟨_,rfl,rfl,V⟩
def Hs (n c:Nat):List Value:=List.replicate c (Value.int .i64 (-1))++List.replicate (n - c) (Value.int .i64 0)
theorem Yn {n c m} (hc:c+m≤n) (hm:m≤c):(Hs n c).take (c * 1)++(Hs n c).take (m * 1)++(Hs n c).drop (c * 1+m * 1)=Hs n (c+m):=by
 unfold Hs;simp only [Nat.mul_one];have e1:(List.replicate c (Value.int .i64 (-1))++List.replicate (n - c) (Value.int .i64 0)).take c=List.replicate c (Value.int .i64 (-1)):=List.take_left' (by simp)
 have e2:(List.replicate c (Value.int .i64 (-1))++List.replicate (n - c) (Value.int .i64 0)).take m=List.replicate m (Value.int .i64 (-1)):=by
  rw [List.take_append_of_le_length (by simp;omega),List.take_replicate,Nat.min_eq_left hm]
 have e3:(List.replicate c (Value.int .i64 (-1))++List.replicate (n - c) (Value.int .i64 0)).drop (c+m)=List.replicate (n - (c+m)) (Value.int .i64 0):=by
  rw [List.drop_append,List.drop_of_length_le (by simp),List.nil_append,List.length_replicate,List.drop_replicate]
  congr 1;omega
 rw [e1,e2,e3,List.replicate_append_replicate]
theorem bw (n):Hs n n=cF Ba (List.replicate n (-1)):=by
 unfold Hs;rw [Nat.sub_self,List.replicate_zero,List.append_nil]
 induction n with
 | zero=>rfl
 | succ n ih=>rw [List.replicate_succ,List.replicate_succ];show _::_=Value.int .i64 (-1)::cF Ba (List.replicate n (-1));rw [ih]
theorem bu (n c):∀ a∈Hs n c,a.oneCell'=true:=by
 intro a ha;unfold Hs at ha;rcases List.mem_append.1 ha with ha|ha
 ·rw [List.eq_of_mem_replicate ha];rfl
 ·rw [List.eq_of_mem_replicate ha];rfl
theorem Ym (n):(List.replicate n ([.int .i64 0]:List Value)).flatten=Hs n 0:=by
 unfold Hs;rw [List.replicate_zero,List.nil_append,Nat.sub_zero]
 induction n with
 | zero=>rfl
 | succ n ih=>rw [List.replicate_succ,List.replicate_succ,List.flatten_cons,ih];rfl
theorem VB {n} (h:1≤n):([.int .i64 (-1)]:List Value)++(Hs n 0).drop (1 * 1)=Hs n 1:=by
 unfold Hs;rw [List.replicate_zero,List.nil_append,Nat.sub_zero,List.drop_replicate];rfl
theorem iE {S c} (h:RL S c ([-1]:List Int)):c=[.int .i64 (-1)]:=by
 have h1:=h.2 0 (-1) rfl;have hl:c.length=1:=h.1
 match c,hl with
 | [a],_=>exact h1.1
theorem bn {P ops rest} {Q:Exit→Act→World→Prop} {l D w ty pos af S M d x y u t tx E e' agg z cap ad zero bb} {xs:List Int} (V:St S M w) (hx:Ai l x=.slice ad 0 cap) (hy:Ai l y=u) (hu:RSl S u xs) (hT:SlT P t E) (hE:Ty P E agg z zero bb) (hU:SlT P tx e') (h:wpList P ops Q rest ⟨(l.set d (.int .i64 0)).toArray,D⟩ w):
  wpList P ops Q (⟨some d,.call { callee:=.builtin .copy,args:=#[x,y],argTypes:=#[t,tx] },ty,pos,af,none⟩::rest) ⟨l.toArray,D⟩ w:=by
 obtain ⟨i,hi,hiz,his,hib⟩:=hE.run_bytes;refine BK (v:=.int .i64 0) (w':=w) ?_ h
 have hl:∃ a n c,u=.slice a n c:=by
  rcases hu with ⟨ad,cap,rfl,_⟩|⟨b,o,cap,c,T,fz,rfl,_⟩
  ·exact ⟨_,_,_,rfl⟩
  ·exact ⟨_,_,_,rfl⟩
 obtain ⟨a,n,c,rfl⟩:=hl
 have hf:(Builtin.firstCells z 0 (.slice a n c)).run P w=.ok #[] w:=by
  cases a with
  | none=>rfl
  | some a=>exact run_firstCells_some w z 0 a n c [] (by simp) (fun j v hj=>by simp at hj)
 have hmin:Nat.min n 0=0:=Nat.min_zero n
 cases ad with
 | none=>simp [execOp,resolve,invoke,builtin,hx,hy,goInt,Builtin.copy_,run_underlying hT.u,sizeOf,typeInfo,hi,his,Builtin.lenOf,hmin,hf]
 | some q=>simp [execOp,resolve,invoke,builtin,hx,hy,goInt,Builtin.copy_,run_underlying hT.u,sizeOf,typeInfo,hi,his,Builtin.lenOf,hmin,hf,storeCells]
set_option maxRecDepth 20000 in
theorem Yv {S M} (w) (V:St S M w) (vx) (hx:RSl S vx ([-1]:List Int)) (n:Nat) (hn:n≤8):
  Ac prog 47 [vx,.int .i64 (n:Int)] w fun v w'=>∃ ad cap,v=.slice ad n cap∧St S (.sl (.slice ad n cap) 3 1 n (cF Ba (List.replicate n (-1)))::M) w':=by
 unfold Ac;have cM:=fun {M} w (V:St S M w)=>iO w V n hn
 have hnn:¬ ((n:Int) < 0):=by omega
 go_enter func47,ntmps47;repeat' ((apply ZZ 4);first|(apply tV ();with_unfolding_all refine Ag V (EU (m:=(1:Int)) rfl Y Y (by decide)) ?_<;>apply nZ ())|(apply O ();go_step)|(apply kc ();refine sc (cM _ V) ?_;clear V;rintro v w ⟨rfl,V⟩)|apply sY ()|fail)
 have hg1:decide ((n:Int) > 9223372036854775807)=false:=decide_eq_false (by omega);repeat' ((apply ZZ 6);first|apply sK ()|apply sG ()|(apply O ();go_step)|fail)
 repeat' (first|(apply tV ();with_unfolding_all refine Ag V (EU (m:=(n:Int)) rfl Y Y (Lt ⟨by omega,by omega⟩)) ?_<;>apply nZ ())|(apply O ();go_step)|fail)
 refine JI (n:=n) V Y Y X X (by omega) (by omega) ?_;clear V;intro v w V;apply nZ ();rw [Ym] at V;have hone:=BE (k:=0) V rfl;obtain ⟨a0,k0,rfl⟩:=Go.Sl.sl_formk (k:=0) V rfl;by_cases h0:n=0
 ·subst h0;repeat' (first|(apply O ();go_step)|fail)
  refine bn V X X hx Y Y Y ?_;apply nZ ();repeat' (first|(apply O ();go_step)|fail)
  go_loopw [8] (fun u8 wr=>u8=.int .i64 0∧St S (.sl (.slice a0 0 k0) 3 1 0 (Hs 0 0)::M) wr) (fun _ _=>0)
  case atStart=>exact ⟨rfl,V⟩
  case round =>
   clear V;obtain ⟨rfl,V⟩:=hrel;repeat' (first|(apply O ();go_step)|apply sY ()|fail)
   go_ret;exact ⟨_,rfl,a0,k0,rfl,V⟩
 ·obtain ⟨c1,hs1,hc1⟩:=Src.data (P:=prog) (tx:=52) V hx (SlT.u (E:=3));obtain rfl:c1=[.int .i64 (-1)]:=iE hc1;repeat' (first|(apply O ();go_step)|fail)
  refine eR (k:=0) (m:=1) V X X rfl Y Y hs1 (by simp [Value.oneCell']) (by omega) ?_;clear V;intro w V;apply nZ ()
  have hst0:St S (.sl (.slice a0 n k0) 3 1 n (Hs n 1)::M) w:=by
   rw [← VB (by omega)];exact V
  clear V hs1 hc1;have V:=hst0;clear hst0;repeat' (first|(apply O ();go_step)|fail)
  go_loopw [8] (fun u8 wr=>∃ c:Nat,1≤c∧c≤n∧u8=.int .i64 (c:Int)∧St S (.sl (.slice a0 n k0) 3 1 n (Hs n c)::M) wr) (fun v _=>n - (intOf v).toNat)
  case atStart=>exact ⟨1,by omega,by omega,rfl,V⟩
  case round =>
   clear V;obtain ⟨c,hc1,hc2,rfl,V⟩:=hrel;by_cases hlt:c < n
   ·obtain ⟨m,hm,hm1,hm2⟩:∃ m:Nat,m=min c (n - c)∧1≤m∧c+m≤n:=⟨min c (n - c),rfl,by omega,by omega⟩
    have hmc:m≤c:=by omega
    have HS:=Lib.hid (Yn hm2 hmc);have HO:=Lib.hid (bu n c);have HM:=Lib.hid hm;clear hm;repeat' ((apply ZZ 9);first|(apply O ();go_step)|apply sY ()|fail)
    refine Bm V kr ?_;clear V;intro w V;have hSS:=Cn V;apply nZ ();refine pd 0 rfl ?_;refine pd 1 rfl ?_;refine pd 2 rfl ?_;refine pd 4 rfl ?_;refine pd 5 rfl ?_;refine Cp 3 6 rfl rfl kr ?_ ?_;intro K G;refine An V (R5 (a:=c) V X SlIn.h rfl Y Y hlt) ?_;rintro v3 ht3;refine pn G ?_;clear G K;refine po 6 rfl ?_;intro K G;refine An V (OS (b:=c) V X SlIn.h rfl Y Y (by omega) (by omega)) ?_;rintro v6 hp6;refine pn G ?_;clear G K;refine po 7 rfl ?_;intro K G;refine ON (m:=m) (o:=c) V X X SlIn.h ht3 hp6 Y Y HO.out (by omega) (by omega) HM.out ?_;clear V;intro w V;simp only [List.set_cons_zero] at V;rw [HS.out] at V;(try replace V:=nH V);refine pn G ?_;clear G K;refine pt 8 rfl (by exact DC rfl rfl Af) ?_;refine pd 9 rfl ?_;refine AK kr ?_;rotate_left;intro K G;refine An V (OS (b:=c) V X SlIn.h rfl Y Y (by omega) (by omega)) ?_;rintro v6 hp6;refine pn G ?_;clear G K;refine po 3 rfl ?_;intro K G;refine An V (R5 (a:=c) V X SlIn.h rfl Y Y hlt) ?_;rintro v3 ht3;refine pn G ?_;clear G K;refine po 7 rfl ?_;intro K G;refine ON (m:=m) (o:=c) V X X SlIn.h ht3 hp6 Y Y HO.out (by omega) (by omega) HM.out ?_;clear V;intro w V;simp only [List.set_cons_zero] at V;rw [HS.out] at V;(try replace V:=nH V);refine pn G ?_;clear G K;refine pt 8 rfl (by exact DC rfl rfl Af) ?_;refine pd 9 rfl ?_;refine AK kr ?_;rotate_left
    all_goals
     repeat' (first|(apply O ();go_step)|fail)
     go_roundw
     case rel=>exact ⟨c+m,by omega,hm2,by go_num,V⟩
     case measure=>simp [intOf];omega
   ·obtain rfl:c=n:=by omega
    repeat' (first|(apply O ();go_step)|apply sY ()|fail)
    go_ret;exact ⟨_,rfl,a0,k0,rfl,by rw [← bw];exact V⟩
def Gw (outs:List (List Int)) (p:Pn):List (List Int):=outs.modify p.1.toNat fun o=>o.set p.2.1.toNat p.2.2.1
def Ed (hs:List Hd):List (List Int):=hs.map fun h=>List.replicate h.2.2.1.toNat (-1)
def LF (hs:List Hd) (ps:List Pn):List (List Int):=ps.foldl Gw (Ed hs)
def GI:List Pg→List Hd→List (List Int)→List (List Int)→Option (List (List Int))
 | p::ps,h::hs,o::os,acc =>
   if p.2.1.length=0 then GI ps hs os (acc++[o])
   else match DS (BM p.2.1 p.2.2.1 p.2.2.2.1) o with
    | none=>none
    | some l=>if p.2.2.2.1≠h.2.2.1 then none else GI ps hs os (acc++[l])
 | _,_,_,acc=>some acc
def Wg:Option (List (List Int))→List (List Int)×Int
 | none=>([],16)
 | some o=>(o,0)
def FV (ev:Cz) (ps:List Pg):List (List Int)×Int :=
 if ps.length≠ev.2.1.length∨ev.2.1.any DP=true then ([],1)
 else if CX ev.2.1 [] ev.2.2.1≠0 then ([],((CX ev.2.1 [] ev.2.2.1:Nat):Int))
 else Wg (GI ps ev.2.1 (LF ev.2.1 ev.2.2.1) [])
theorem VY (a Lqq e M):List.Perm (BR e::a::(Lqq.map BR++M)) (a::((Lqq++[e]).map BR++M)):=by
 have h1:((Lqq++[e]).map BR++M)=Lqq.map BR++(BR e::M):=by simp
 rw [h1];exact (List.Perm.swap a (BR e) _).trans (List.Perm.cons a List.perm_middle.symm)
theorem OY (a l1 l2 e M):List.Perm (BR e::a::((l1++l2).map BR++M)) (a::((l1++e::l2).map BR++M)):=by
 have h1:((l1++e::l2).map BR++M)=l1.map BR++(BR e::(l2.map BR++M)):=by simp
 have h2:((l1++l2).map BR++M)=l1.map BR++(l2.map BR++M):=by simp
 rw [h1,h2];exact (List.Perm.swap a (BR e) _).trans (List.Perm.cons a List.perm_middle.symm)
theorem VZ (a) (Lqq:List Dr) (M):List.Perm (a::(Lqq.map BR++M)) (Lqq.map BR++(a::M)):=List.perm_middle.symm
theorem TM {hs:List Hd} {i} (h):Ed (hs.take (i+1))=Ed (hs.take i)++[List.replicate (hs[i]).2.2.1.toNat (-1)]:=by
 unfold Ed;rw [List.take_succ_eq_append_getElem h,List.map_append];rfl
theorem Vs (outs p):(Gw outs p).map List.length=outs.map List.length:=by
 unfold Gw;apply List.ext_getElem?;intro i;rw [List.getElem?_map,List.getElem?_map,List.getElem?_modify]
 cases outs[i]? with
 | none=>simp
 | some o=>by_cases h:p.1.toNat=i<;>simp [h]
theorem Jj:∀ (ps:List Pn) (outs:List (List Int)),(ps.foldl Gw outs).map List.length=outs.map List.length
 | [],outs=>rfl
 | p::ps,outs=>by rw [List.foldl_cons,Jj ps,Vs]
theorem YE {hs:List Hd} {ps} (hc:CX hs [] ps=0) (es k) (hk:k < ps.length) (he:es.map (·.xs)=(ps.take k).foldl Gw (Ed hs)):
  ∃ l1 e l2,es=l1++e::l2∧(ps[k]).1=((l1.length:Nat):Int)∧0≤(ps[k]).2.1∧(ps[k]).2.1.toNat < e.xs.length ∧
   (∀ e':Dr,e'.xs=e.xs.set (ps[k]).2.1.toNat (ps[k]).2.2.1→(l1++e'::l2).map (·.xs)=(ps.take (k+1)).foldl Gw (Ed hs)):=by
 obtain ⟨h0,h,hh,q0,q1,_⟩:=WR ps [] hc _ (List.getElem_mem hk)
 have hl:es.length=hs.length:=by
  have:=congrArg List.length he;have h2:=congrArg List.length (Jj (ps.take k) (Ed hs));simp only [List.length_map] at this h2;rw [this,h2];unfold Ed;rw [List.length_map]
 have hj:(ps[k]).1.toNat < es.length:=by rw [hl];exact (List.getElem?_eq_some_iff.1 hh).1
 have hsp:es=es.take (ps[k]).1.toNat++es[(ps[k]).1.toNat]::es.drop ((ps[k]).1.toNat+1):=by
  rw [← List.drop_eq_getElem_cons hj,List.take_append_drop]
 have hl1:(es.take (ps[k]).1.toNat).length=(ps[k]).1.toNat:=by rw [List.length_take];omega
 refine ⟨es.take (ps[k]).1.toNat,es[(ps[k]).1.toNat],es.drop ((ps[k]).1.toNat+1),hsp,by rw [hl1];omega,q0,?_,?_⟩
 ·have hln:(es[(ps[k]).1.toNat]).xs.length=h.2.2.1.toNat:=by
   have h3:=Jj (ps.take k) (Ed hs);rw [← he,List.map_map] at h3;have h4:=congrArg (fun l=>l[(ps[k]).1.toNat]?) h3;simp only [List.getElem?_map,Ed,List.map_map] at h4;rw [List.getElem?_eq_getElem hj,hh] at h4
   simpa using h4
  rw [hln];omega
 ·intro e' he';rw [List.take_succ_eq_append_getElem hk,List.foldl_append,← he];show _=Gw (es.map (·.xs)) ps[k];unfold Gw;apply List.ext_getElem?;intro i;rw [List.getElem?_modify,List.getElem?_map,List.getElem?_map];by_cases hi:(ps[k]).1.toNat=i
  ·subst hi;rw [List.getElem?_append_right (by omega),hl1,Nat.sub_self,List.getElem?_cons_zero,List.getElem?_eq_getElem hj];simp [he']
  ·rcases Nat.lt_or_ge i (ps[k]).1.toNat with hlt|hge
   ·rw [List.getElem?_append_left (by omega),List.getElem?_take,if_pos hlt]
    cases es[i]?<;>simp [hi]
   ·rw [List.getElem?_append_right (by omega),hl1];obtain ⟨d,hd⟩:∃ d,i - (ps[k]).1.toNat=d+1:=⟨i - (ps[k]).1.toNat - 1,by omega⟩
    rw [hd,List.getElem?_cons_succ,List.getElem?_drop,show (ps[k]).1.toNat+1+d=i by omega]
    cases es[i]?<;>simp [hi]
theorem R4 {S:Ad}:∀ {es:List Dr},(∀ e∈es,RSl S e.v e.xs)→RL S (es.map Dr.v) (es.map (·.xs))
 | [],_=>RL.nil
 | e::es,h=>DX (h e List.mem_cons_self) (R4 fun x hx=>h x (List.mem_cons_of_mem _ hx))
theorem gH {ev} (h:ev.2.1.any DP=false) (ok:Ox ev):∀ x∈ev.2.1,∃ n:Nat,x.2.2.1=(n:Int)∧n≤8:=fun x hx=>by
 rw [List.any_eq_false] at h;have:=h x hx;unfold DP at this;simp only [Bool.or_eq_true,decide_eq_true_eq] at this;exact ⟨x.2.2.1.toNat,by omega,by omega⟩
theorem dE {es:List Dr} (h:∀ e∈es,∀ x∈e.xs,Au x) (n) {k ad cap}:∀ e∈es++[⟨k,ad,cap,List.replicate n (-1)⟩],∀ x∈e.xs,Au x:=fun e he x hx=>by
 rcases List.mem_append.1 he with he|he
 ·exact h e he x hx
 ·obtain rfl:=List.mem_singleton.1 he;obtain rfl:=List.eq_of_mem_replicate hx;unfold Au;omega
theorem dD {l1 l2:List Dr} {k ad cap xs t} (h:∀ e∈l1++⟨k,ad,cap,xs⟩::l2,∀ x∈e.xs,Au x) (ht:Au t) {q} (k2 ad2 cap2):∀ e∈l1++⟨k2,ad2,cap2,xs.set q t⟩::l2,∀ x∈e.xs,Au x:=fun e he x hx=>by
 rcases List.mem_append.1 he with he|he
 ·exact h e (List.mem_append_left _ he) x hx
 ·rcases List.mem_cons.1 he with rfl|he
  ·rcases List.mem_or_eq_of_mem_set hx with hx|rfl
   ·exact h _ (List.mem_append_right _ List.mem_cons_self) x hx
   ·exact ht
  ·exact h e (List.mem_append_right _ (List.mem_cons_of_mem _ he)) x hx
theorem dW (l1 e l2):(((l1++e::l2).map Dr.v).drop (l1.length * 1)).take 1=[e.v]:=by
 rw [Nat.mul_one,List.map_append,List.drop_left' (by simp),List.map_cons,List.take_succ_cons,List.take_zero]
theorem WV (l1 k ad cap xs) (l2:List Dr) (q t):(l1++⟨k,ad,cap,xs.set q t⟩::l2).map Dr.v=(l1++⟨k,ad,cap,xs⟩::l2).map Dr.v:=by
 rw [List.map_append,List.map_append,List.map_cons,List.map_cons];show _++(Value.slice ad (xs.set q t).length cap::_)=_;rw [List.length_set]
theorem V0 {hs:List Hd} (h:∀ x∈hs,∃ n:Nat,x.2.2.1=(n:Int)∧n≤8) (ps:List Pn):∀ o∈ps.foldl Gw (Ed hs),o.length≤8:=fun o ho=>by
 have h1:o.length∈(ps.foldl Gw (Ed hs)).map List.length:=List.mem_map_of_mem ho;rw [Jj] at h1;unfold Ed at h1;rw [List.map_map,List.mem_map] at h1;obtain ⟨x,hx,e⟩:=h1;obtain ⟨n,hn,h8⟩:=h x hx;simp only [Function.comp_apply,List.length_replicate] at e;omega
theorem bg {α:Type} {acc os:List α} {o l k} (h:acc.length=k):(acc++o::os).set k l=acc++[l]++os:=by
 subst h;rw [List.set_append_right _ _ (Nat.le_refl _),Nat.sub_self,List.set_cons_zero,List.append_assoc];rfl
theorem Qo {hs:List Hd} {os acc}:GI [] hs os acc=some acc:=by simp [GI]
theorem fh {S c} {xs:List (List Int)} (h:RL S c xs):∀ o∈xs,∀ x∈o,Au x:=fun o ho x hx=>by
 obtain ⟨i,hi,rfl⟩:=List.getElem_of_mem ho;obtain ⟨v,_,hr⟩:=h.2 i _ (List.getElem?_eq_getElem hi);obtain ⟨j,hj,rfl⟩:=List.getElem_of_mem hx;obtain ⟨cs,hcs⟩:=Lx hr hj;exact hcs.2
theorem dt {p ps h} {hs:List Hd} {o} {os acc} (hz:p.2.1.length=0):GI (p::ps) (h::hs) (o::os) acc=GI ps hs os (acc++[o]):=by rw [GI,if_pos hz]
theorem du {p ps h} {hs:List Hd} {o} {os acc} (hz:¬ p.2.1.length=0) (hi:DS (BM p.2.1 p.2.2.1 p.2.2.2.1) o=none):GI (p::ps) (h::hs) (o::os) acc=none:=by rw [GI,if_neg hz,hi]
theorem Oi {p ps h} {hs:List Hd} {o l} {os acc} (hz:¬ p.2.1.length=0) (hi:DS (BM p.2.1 p.2.2.1 p.2.2.2.1) o=some l):GI (p::ps) (h::hs) (o::os) acc=if p.2.2.2.1≠h.2.2.1 then none else GI ps hs os (acc++[l]):=by rw [GI,if_neg hz,hi]
instance me:Key prog 50 Rg 3:=by
 refine Km (d:=2) underlying50 kr kr ?_;simp only [List.toList_toArray]
 haveI k2:KeyFs prog [] 32 Unit 0:=Lb
 exact Ds (d:=2) (d':=2) rfl kr (kb:=Ds (d:=2) (d':=0) rfl kr (kb:=k2))
instance mV:EqTy prog 50:=⟨by kernel_rfl,by kernel_rfl,by kernel_rfl⟩
def J4 (ev:Cz) (r:Rg):Int:=if CX ev.2.1 [] ev.2.2.1≠0 then ((CX ev.2.1 [] ev.2.2.1:Nat):Int) else if DL ev.1 ev.2.1=r then 0 else 16
theorem Ll {S M} (w) (V:St S M w) (hG:Bu S) (cs ev) (hR:Z.R S cs ev) (ok:Ox ev) (r) (hr:EP r):
  Ac prog 19 [.agg cs.toArray,L4 r] w fun v w'=>v=.int .i64 (J4 ev r)∧St S M w':=by
 unfold Ac;obtain ⟨R,hRR⟩:∃ R,J4 ev r=R:=⟨_,rfl⟩
 rw [hRR];have HR:=Lib.hid hRR;clear hRR;go_enter func19,ntmps19;repeat' ((apply ZZ 1);first|(apply O ();go_step)|(apply sC ();clear V;intro bx w V)|fail)
 obtain ⟨S1,hS1,hst1,hpr⟩:=AC (α:=Rg) V (Dm hr) (Z.len (Dm (S:=S) hr));generalize Value.pointer (some ⟨bx,0,none⟩)=pR at *;clear V;rename Nat=>bz
 obtain ⟨S2,hS2,V,hpe⟩:=AC (α:=Cz) hst1 (Z.mono hS1 hR) (Z.len hR);clear hst1;replace hpr:=Pt.mono hS2 hpr;generalize Value.pointer (some ⟨bx,0,none⟩)=pE at *;have hG2:=Bu.mono (hS1.trans hS2) hG;have cC:=fun {M} w (V:St S2 M w) (cl:List Value) (hR:Z.R S2 cl ev)=>SJ w V hG2 cl ev hR ok
 have cG:=fun {M} w (V:St S2 M w) (cl:List Value) (hR:Z.R S2 cl ev)=>Ro w V hG2 cl ev hR hR.2.1.1 (fun h hh=>(ok.hd h hh).1) ok.nh
 have hok:=LD ev.1 ev.2.1;unfold J4 at HR;generalize CX ev.2.1 [] ev.2.2.1=c at *;generalize DL ev.1 ev.2.1=q at *;have hle:=hS1.trans hS2;clear hS1 hS2 hR;by_cases h0:c=0
 ·subst h0;by_cases hq:q=r
  ·have hdc:decide (q=r)=true:=decide_eq_true hq;have HN:Hid ((0:Int)=R):=Lib.hid (by rw [← HR.out,if_neg (by decide),if_pos hq]);apply ku ()
  ·have hdc:decide (q=r)=false:=decide_eq_false hq;have HN:Hid ((16:Int)=R):=Lib.hid (by rw [← HR.out,if_neg (by decide),if_neg hq]);apply ku ()
 ·have hz:(((c:Nat):Int) != 0)=true:=bne_iff_ne.2 (by omega);have HN:Hid (((c:Nat):Int)=R):=Lib.hid (by rw [← HR.out,if_pos h0]);clear HR h0;repeat' (first|apply sK ()|(apply O ();go_step)|(apply tL ();refine An V (Aw (y:=ev) X hpe Y) ?_;rintro v34 ⟨c34,rfl,hc34⟩<;>apply nZ ())|(apply kc ();refine sc (cC _ V c34 hc34) ?_;clear V;rintro v w ⟨rfl,V⟩)|fail)
  go_ret;exact ⟨_,rfl,by rw [← HN.out];rfl,St.weaken hle V⟩
end Go.Proofs.YtmmbidoldegemaaGreatDoor
