/- Part 44 of a proof; no conditions. -/
import Derived.Lib.SliceRun
import Derived.Deep.Cut
import Derived.Test.YtmmbidoldegemaaGreatDoorZ41
import Derived.Test.YtmmbidoldegemaaGreatDoorZ42
set_option linter.all false
set_option maxRecDepth 8000
set_option maxHeartbeats 8000000
namespace Go.Proofs.YtmmbidoldegemaaGreatDoor
open Go.RowKit Go.Sl Go.Proofs.Tryz
def Gw (outs:List (List Int)) (p:Pn):List (List Int):=outs.modify p.1.toNat fun o=>o.set p.2.1.toNat p.2.2.1
def Ed (hs:List Hd):List (List Int):=hs.map fun h=>List.replicate h.2.2.1.toNat (-1)
def LF (hs:List Hd) (ps:List Pn):List (List Int):=ps.foldl Gw (Ed hs)
def GI:List Pg→List Hd→List (List Int)→List (List Int)→Option (List (List Int))
 | p::ps,h::hs,o::os,acc =>
   if p.2.1.length=0 then GI ps hs os (acc++[o])
   else match DS (BM p.2.1 p.2.2.1 p.2.2.2.1) o with
    | none=>none
    | some l=>if p.2.2.2.1≠h.2.2.1 then none else GI ps hs os (acc++[l])
 | _,_,_,acc=>some acc
def Wg:Option (List (List Int))→List (List Int)×Int
 | none=>([],16)
 | some o=>(o,0)
def FV (ev:Cz) (ps:List Pg):List (List Int)×Int :=
 if ps.length≠ev.2.1.length∨ev.2.1.any DP=true then ([],1)
 else if CX ev.2.1 [] ev.2.2.1≠0 then ([],((CX ev.2.1 [] ev.2.2.1:Nat):Int))
 else Wg (GI ps ev.2.1 (LF ev.2.1 ev.2.2.1) [])
theorem VY (a Lqq e M):List.Perm (BR e::a::(Lqq.map BR++M)) (a::((Lqq++[e]).map BR++M)):=by
 have h1:((Lqq++[e]).map BR++M)=Lqq.map BR++(BR e::M):=by simp
 rw [h1];exact (List.Perm.swap a (BR e) _).trans (List.Perm.cons a List.perm_middle.symm)
theorem OY (a l1 l2 e M):List.Perm (BR e::a::((l1++l2).map BR++M)) (a::((l1++e::l2).map BR++M)):=by
 have h1:((l1++e::l2).map BR++M)=l1.map BR++(BR e::(l2.map BR++M)):=by simp
 have h2:((l1++l2).map BR++M)=l1.map BR++(l2.map BR++M):=by simp
 rw [h1,h2];exact (List.Perm.swap a (BR e) _).trans (List.Perm.cons a List.perm_middle.symm)
theorem VZ (a) (Lqq:List Dr) (M):List.Perm (a::(Lqq.map BR++M)) (Lqq.map BR++(a::M)):=List.perm_middle.symm
theorem TM {hs:List Hd} {i} (h):Ed (hs.take (i+1))=Ed (hs.take i)++[List.replicate (hs[i]).2.2.1.toNat (-1)]:=by
 unfold Ed;rw [List.take_succ_eq_append_getElem h,List.map_append];rfl
theorem Vs (outs p):(Gw outs p).map List.length=outs.map List.length:=by
 unfold Gw;apply List.ext_getElem?;intro i;rw [List.getElem?_map,List.getElem?_map,List.getElem?_modify]
 cases outs[i]? with
 | none=>simp
 | some o=>by_cases h:p.1.toNat=i<;>simp [h]
theorem Jj:∀ (ps:List Pn) (outs:List (List Int)),(ps.foldl Gw outs).map List.length=outs.map List.length
 | [],outs=>rfl
 | p::ps,outs=>by rw [List.foldl_cons,Jj ps,Vs]
theorem YE {hs:List Hd} {ps} (hc:CX hs [] ps=0) (es k) (hk:k < ps.length) (he:es.map (·.xs)=(ps.take k).foldl Gw (Ed hs)):
  ∃ l1 e l2,es=l1++e::l2∧(ps[k]).1=((l1.length:Nat):Int)∧0≤(ps[k]).2.1∧(ps[k]).2.1.toNat < e.xs.length ∧
   (∀ e':Dr,e'.xs=e.xs.set (ps[k]).2.1.toNat (ps[k]).2.2.1→(l1++e'::l2).map (·.xs)=(ps.take (k+1)).foldl Gw (Ed hs)):=by
 obtain ⟨h0,h,hh,q0,q1,_⟩:=WR ps [] hc _ (List.getElem_mem hk)
 have hl:es.length=hs.length:=by
  have:=congrArg List.length he;have h2:=congrArg List.length (Jj (ps.take k) (Ed hs));simp only [List.length_map] at this h2;rw [this,h2];unfold Ed;rw [List.length_map]
 have hj:(ps[k]).1.toNat < es.length:=by rw [hl];exact (List.getElem?_eq_some_iff.1 hh).1
 have hsp:es=es.take (ps[k]).1.toNat++es[(ps[k]).1.toNat]::es.drop ((ps[k]).1.toNat+1):=by
  rw [← List.drop_eq_getElem_cons hj,List.take_append_drop]
 have hl1:(es.take (ps[k]).1.toNat).length=(ps[k]).1.toNat:=by rw [List.length_take];omega
 refine ⟨es.take (ps[k]).1.toNat,es[(ps[k]).1.toNat],es.drop ((ps[k]).1.toNat+1),hsp,by rw [hl1];omega,q0,?_,?_⟩
 ·have hln:(es[(ps[k]).1.toNat]).xs.length=h.2.2.1.toNat:=by
   have h3:=Jj (ps.take k) (Ed hs);rw [← he,List.map_map] at h3;have h4:=congrArg (fun l=>l[(ps[k]).1.toNat]?) h3;simp only [List.getElem?_map,Ed,List.map_map] at h4;rw [List.getElem?_eq_getElem hj,hh] at h4
   simpa using h4
  rw [hln];omega
 ·intro e' he';rw [List.take_succ_eq_append_getElem hk,List.foldl_append,← he];show _=Gw (es.map (·.xs)) ps[k];unfold Gw;apply List.ext_getElem?;intro i;rw [List.getElem?_modify,List.getElem?_map,List.getElem?_map];by_cases hi:(ps[k]).1.toNat=i
  ·subst hi;rw [List.getElem?_append_right (by omega),hl1,Nat.sub_self,List.getElem?_cons_zero,List.getElem?_eq_getElem hj];simp [he']
  ·rcases Nat.lt_or_ge i (ps[k]).1.toNat with hlt|hge
   ·rw [List.getElem?_append_left (by omega),List.getElem?_take,if_pos hlt]
    cases es[i]?<;>simp [hi]
   ·rw [List.getElem?_append_right (by omega),hl1];obtain ⟨d,hd⟩:∃ d,i - (ps[k]).1.toNat=d+1:=⟨i - (ps[k]).1.toNat - 1,by omega⟩
    rw [hd,List.getElem?_cons_succ,List.getElem?_drop,show (ps[k]).1.toNat+1+d=i by omega]
    cases es[i]?<;>simp [hi]
theorem R4 {S:Ad}:∀ {es:List Dr},(∀ e∈es,RSl S e.v e.xs)→RL S (es.map Dr.v) (es.map (·.xs))
 | [],_=>RL.nil
 | e::es,h=>DX (h e List.mem_cons_self) (R4 fun x hx=>h x (List.mem_cons_of_mem _ hx))
theorem gH {ev} (h:ev.2.1.any DP=false) (ok:Ox ev):∀ x∈ev.2.1,∃ n:Nat,x.2.2.1=(n:Int)∧n≤8:=fun x hx=>by
 rw [List.any_eq_false] at h;have:=h x hx;unfold DP at this;simp only [Bool.or_eq_true,decide_eq_true_eq] at this;exact ⟨x.2.2.1.toNat,by omega,by omega⟩
theorem dE {es:List Dr} (h:∀ e∈es,∀ x∈e.xs,Au x) (n) {k ad cap}:∀ e∈es++[⟨k,ad,cap,List.replicate n (-1)⟩],∀ x∈e.xs,Au x:=fun e he x hx=>by
 rcases List.mem_append.1 he with he|he
 ·exact h e he x hx
 ·obtain rfl:=List.mem_singleton.1 he;obtain rfl:=List.eq_of_mem_replicate hx;unfold Au;omega
theorem dD {l1 l2:List Dr} {k ad cap xs t} (h:∀ e∈l1++⟨k,ad,cap,xs⟩::l2,∀ x∈e.xs,Au x) (ht:Au t) {q} (k2 ad2 cap2):∀ e∈l1++⟨k2,ad2,cap2,xs.set q t⟩::l2,∀ x∈e.xs,Au x:=fun e he x hx=>by
 rcases List.mem_append.1 he with he|he
 ·exact h e (List.mem_append_left _ he) x hx
 ·rcases List.mem_cons.1 he with rfl|he
  ·rcases List.mem_or_eq_of_mem_set hx with hx|rfl
   ·exact h _ (List.mem_append_right _ List.mem_cons_self) x hx
   ·exact ht
  ·exact h e (List.mem_append_right _ (List.mem_cons_of_mem _ he)) x hx
theorem dW (l1 e l2):(((l1++e::l2).map Dr.v).drop (l1.length * 1)).take 1=[e.v]:=by
 rw [Nat.mul_one,List.map_append,List.drop_left' (by simp),List.map_cons,List.take_succ_cons,List.take_zero]
theorem WV (l1 k ad cap xs) (l2:List Dr) (q t):(l1++⟨k,ad,cap,xs.set q t⟩::l2).map Dr.v=(l1++⟨k,ad,cap,xs⟩::l2).map Dr.v:=by
 rw [List.map_append,List.map_append,List.map_cons,List.map_cons];show _++(Value.slice ad (xs.set q t).length cap::_)=_;rw [List.length_set]
theorem V0 {hs:List Hd} (h:∀ x∈hs,∃ n:Nat,x.2.2.1=(n:Int)∧n≤8) (ps:List Pn):∀ o∈ps.foldl Gw (Ed hs),o.length≤8:=fun o ho=>by
 have h1:o.length∈(ps.foldl Gw (Ed hs)).map List.length:=List.mem_map_of_mem ho;rw [Jj] at h1;unfold Ed at h1;rw [List.map_map,List.mem_map] at h1;obtain ⟨x,hx,e⟩:=h1;obtain ⟨n,hn,h8⟩:=h x hx;simp only [Function.comp_apply,List.length_replicate] at e;omega
theorem bg {α:Type} {acc os:List α} {o l k} (h:acc.length=k):(acc++o::os).set k l=acc++[l]++os:=by
 subst h;rw [List.set_append_right _ _ (Nat.le_refl _),Nat.sub_self,List.set_cons_zero,List.append_assoc];rfl
theorem Qo {hs:List Hd} {os acc}:GI [] hs os acc=some acc:=by simp [GI]
theorem fh {S c} {xs:List (List Int)} (h:RL S c xs):∀ o∈xs,∀ x∈o,Au x:=fun o ho x hx=>by
 obtain ⟨i,hi,rfl⟩:=List.getElem_of_mem ho;obtain ⟨v,_,hr⟩:=h.2 i _ (List.getElem?_eq_getElem hi);obtain ⟨j,hj,rfl⟩:=List.getElem_of_mem hx;obtain ⟨cs,hcs⟩:=Lx hr hj;exact hcs.2
theorem dt {p ps h} {hs:List Hd} {o} {os acc} (hz:p.2.1.length=0):GI (p::ps) (h::hs) (o::os) acc=GI ps hs os (acc++[o]):=by rw [GI,if_pos hz]
theorem du {p ps h} {hs:List Hd} {o} {os acc} (hz:¬ p.2.1.length=0) (hi:DS (BM p.2.1 p.2.2.1 p.2.2.2.1) o=none):GI (p::ps) (h::hs) (o::os) acc=none:=by rw [GI,if_neg hz,hi]
theorem Oi {p ps h} {hs:List Hd} {o l} {os acc} (hz:¬ p.2.1.length=0) (hi:DS (BM p.2.1 p.2.2.1 p.2.2.2.1) o=some l):GI (p::ps) (h::hs) (o::os) acc=if p.2.2.2.1≠h.2.2.1 then none else GI ps hs os (acc++[l]):=by rw [GI,if_neg hz,hi]
instance me:Key prog 50 Rg 3:=by
 refine Km (d:=2) underlying50 kr kr ?_;simp only [List.toList_toArray]
 haveI k2:KeyFs prog [] 32 Unit 0:=Lb
 exact Ds (d:=2) (d':=2) rfl kr (kb:=Ds (d:=2) (d':=0) rfl kr (kb:=k2))
instance mV:EqTy prog 50:=⟨by kernel_rfl,by kernel_rfl,by kernel_rfl⟩
def J4 (ev:Cz) (r:Rg):Int:=if CX ev.2.1 [] ev.2.2.1≠0 then ((CX ev.2.1 [] ev.2.2.1:Nat):Int) else if DL ev.1 ev.2.1=r then 0 else 16
theorem Ll {S M} (w) (V:St S M w) (hG:Bu S) (cs ev) (hR:Z.R S cs ev) (ok:Ox ev) (r) (hr:EP r):
  Ac prog 19 [.agg cs.toArray,L4 r] w fun v w'=>v=.int .i64 (J4 ev r)∧St S M w':=by
 unfold Ac;obtain ⟨R,hRR⟩:∃ R,J4 ev r=R:=⟨_,rfl⟩
 rw [hRR];have HR:=Lib.hid hRR;clear hRR;go_enter func19,ntmps19;repeat' ((apply ZZ 1);first|(apply O ();go_step)|(apply sC ();clear V;intro bx w V)|fail)
 obtain ⟨S1,hS1,hst1,hpr⟩:=AC (α:=Rg) V (Dm hr) (Z.len (Dm (S:=S) hr));generalize Value.pointer (some ⟨bx,0,none⟩)=pR at *;clear V;rename Nat=>bz
 obtain ⟨S2,hS2,V,hpe⟩:=AC (α:=Cz) hst1 (Z.mono hS1 hR) (Z.len hR);clear hst1;replace hpr:=Pt.mono hS2 hpr;generalize Value.pointer (some ⟨bx,0,none⟩)=pE at *;have hG2:=Bu.mono (hS1.trans hS2) hG;have cC:=fun {M} w (V:St S2 M w) cl (hR:Z.R S2 cl ev)=>SJ w V hG2 cl ev hR ok
 have cG:=fun {M} w (V:St S2 M w) cl (hR:Z.R S2 cl ev)=>Ro w V hG2 cl ev hR hR.2.1.1 (fun h hh=>(ok.hd h hh).1) ok.nh
 have hok:=LD ev.1 ev.2.1;unfold J4 at HR;generalize CX ev.2.1 [] ev.2.2.1=c at *;generalize DL ev.1 ev.2.1=q at *;have hle:=hS1.trans hS2;clear hS1 hS2 hR;by_cases h0:c=0
 ·subst h0;by_cases hq:q=r
  ·have hdc:decide (q=r)=true:=decide_eq_true hq;have HN:Hid ((0:Int)=R):=Lib.hid (by rw [← HR.out,if_neg (by decide),if_pos hq]);apply ku ()
  ·have hdc:decide (q=r)=false:=decide_eq_false hq;have HN:Hid ((16:Int)=R):=Lib.hid (by rw [← HR.out,if_neg (by decide),if_neg hq]);apply ku ()
 ·have hz:(((c:Nat):Int) != 0)=true:=bne_iff_ne.2 (by omega);have HN:Hid (((c:Nat):Int)=R):=Lib.hid (by rw [← HR.out,if_pos h0]);clear HR h0;repeat' (first|apply sK ()|(apply O ();go_step)|(apply tL ();refine An V (Aw (y:=ev) X hpe Y) ?_;rintro v34 ⟨c34,rfl,hc34⟩<;>apply nZ ())|(apply kc ();refine sc (cC _ V c34 hc34) ?_;clear V;rintro v w ⟨rfl,V⟩)|fail)
  go_ret;exact ⟨_,rfl,by rw [← HN.out];rfl,St.weaken hle V⟩
end Go.Proofs.YtmmbidoldegemaaGreatDoor
namespace Go.Proofs.YtmmbidoldegemaaGreatDoor
open Go.RowKit Go.Sl Go.Srt
theorem wz {m log i} (hv:∀ e∈log,∀ t∈e.2.2.1,(0:Int)≤t∧t≤3) (hi:∀ r∈i,GF log r) (hn:i.Nodup):CX (log.map AE) [] (i.map (FB log))=0∧J4 (EM m log i) (E8 m log)=0:=by
 have h:=aa hv i [] _ (V7 i [] hi hn (fun r _=>List.not_mem_nil));refine ⟨h,?_⟩;unfold J4;simp only;rw [if_neg (by rw [h];decide),if_pos (Yw m log)]
theorem wV {m log i ks} (hi:∀ r∈i,GF log r):PZ (EM m log i) ks=EM m log (i.filter fun r=>decide (r∈ks)):=by
 unfold PZ;simp only;rw [List.filter_map]
 congr 4
 apply List.filter_congr;intro r hr;show decide (kP (FB log r)∈ks)=_;rw [IM (hi r hr)]
theorem wL (outs p):(Gw outs p).length=outs.length:=by unfold Gw;rw [List.length_modify]
theorem wE (outs p k):(Gw outs p)[k]? = (outs[k]?).map fun o=>if p.1.toNat=k then o.set p.2.1.toNat p.2.2.1 else o:=by
 unfold Gw;rw [List.getElem?_modify];by_cases h:p.1.toNat=k
 ·simp only [if_pos h];rfl
 ·simp only [if_neg h];cases outs[k]?<;>rfl
theorem vR {log:List Ev}:∀ (rs:List (Int×Int)) (o:List (List Int)),(∀ r∈rs,GF log r)→∀ (k:Nat) (e:Ev) (x:List Int),log[k]? = some e→o[k]? = some x→x.length=e.2.2.1.length →
  ∃ y,((rs.map (FB log)).foldl Gw o)[k]? = some y∧y.length=e.2.2.1.length∧∀ j:Nat,y.getD j 0=if ((k:Int),(j:Int))∈rs then e.2.2.1.getD j 0 else x.getD j 0
 | [],o,h,k,e,x,he,hx,hl=>⟨x,hx,hl,fun j=>by rw [if_neg List.not_mem_nil]⟩
 | r::rs,o,h,k,e,x,he,hx,hl=>by
  obtain ⟨h1,h2,f,hf,h3⟩:=h r (.head _);have ep:FB log r=(r.1,r.2,f.2.2.1.getD r.2.toNat 0,Bk (FM f) r.2.toNat,()):=by unfold FB;rw [hf]
  obtain ⟨y,a,b,c⟩:=vR rs (Gw o (FB log r)) (fun q hq=>h q (.tail _ hq)) k e (if r.1.toNat=k then x.set r.2.toNat (f.2.2.1.getD r.2.toNat 0) else x) he (by rw [wE,hx,ep];rfl) (by split<;>simp [hl]);refine ⟨y,by rw [List.map_cons,List.foldl_cons];exact a,b,fun j=>?_⟩;rw [c j];by_cases hm:((k:Int),(j:Int))∈rs
  ·rw [if_pos hm,if_pos (.tail _ hm)]
  ·rw [if_neg hm];by_cases hr:r.1.toNat=k
   ·rw [if_pos hr,uA];have feq0:f=e:=by rw [hr,he] at hf;exact (Option.some.inj hf).symm
    subst feq0;by_cases hj:r.2.toNat=j
    ·have hrk:((k:Int),(j:Int))=r:=by
      obtain ⟨r1,r2⟩:=r;simp only at hr hj h1 h2;rw [show (k:Int)=r1 from by omega,show (j:Int)=r2 from by omega]
     rw [if_pos ⟨hj,by omega⟩,if_pos (by rw [hrk];exact .head _),hj]
    ·rw [if_neg (fun g=>hj g.1),if_neg];intro g;rcases List.mem_cons.1 g with g|g
     ·exact hj (by rw [← g];simp)
     ·exact hm g
   ·rw [if_neg hr,if_neg];intro g;rcases List.mem_cons.1 g with g|g
    ·exact hr (by rw [← g];simp)
    ·exact hm g
theorem vK {log} {rs:List (Int×Int)} (h:∀ r∈rs,GF log r) {k:Nat} {e} (he:log[k]? = some e):
  ∃ y,(LF (log.map AE) (rs.map (FB log)))[k]? = some y∧y.length=e.2.2.1.length∧∀ j:Nat,y.getD j 0=if ((k:Int),(j:Int))∈rs then e.2.2.1.getD j 0 else (List.replicate e.2.2.1.length (-1:Int)).getD j 0:=by
 unfold LF;refine vR rs _ h k e _ he ?_ (by simp);unfold Ed;rw [List.map_map,List.getElem?_map,he];rfl
theorem vQ (n j):(List.replicate n (-1:Int)).getD j 0=if j < n then -1 else 0:=by
 rw [List.getD_eq_getElem?_getD,List.getElem?_replicate];split<;>rfl
abbrev vW (p:Pg):List (Int×Int):=BM p.2.1 p.2.2.1 p.2.2.2.1
theorem vV:∀ (ps:List Pg) (hs:List Hd) (os acc:List (List Int)),ps.length=hs.length→os.length=hs.length→(∀ (k:Nat) p h o,ps[k]? = some p→hs[k]? = some h→os[k]? = some o→0 < p.2.1.length∧p.2.2.2.1=h.2.2.1∧∃ l,DS (vW p) o=some l) →
  ∃ K,GI ps hs os acc=some (acc++K)∧K.length=ps.length∧∀ (k:Nat) p o,ps[k]? = some p→os[k]? = some o→∃ l,K[k]? = some l∧DS (vW p) o=some l
 | [],hs,os,acc,h1,h2,H=>⟨[],by rw [GI,List.append_nil];simp,rfl,fun k p o L=>by simp at L⟩
 | p::ps,[],os,acc,h1,h2,H=>by simp at h1
 | p::ps,h::hs,[],acc,h1,h2,H=>by simp at h2
 | p::ps,h::hs,o::os,acc,h1,h2,H=>by
  obtain ⟨a,b,l,hl⟩:=H 0 p h o rfl rfl rfl;obtain ⟨K,k1,k2,k3⟩:=vV ps hs os (acc++[l]) (by simpa using h1) (by simpa using h2) (fun k q g r e1 e2 e3=>H (k+1) q g r e1 e2 e3);refine ⟨l::K,?_,by simp [k2],fun k q r e1 e2=>?_⟩
  ·rw [GI,if_neg (by omega)];show (match DS (vW p) o with|none=>none|some l=>if p.2.2.2.1≠h.2.2.1 then none else GI ps hs os (acc++[l]))=_;rw [hl];simp only;rw [if_neg (fun e=>e b),k1,List.append_assoc];rfl
  ·cases k with
   | zero =>
    obtain rfl:=Option.some.inj e1;obtain rfl:=Option.some.inj e2;exact ⟨l,rfl,hl⟩
   | succ k=>exact k3 k q r e1 e2
theorem wa {en h h' l l'} (hh:uD h h') (e:DS en h=some l) (e':DS en h'=some l'):uD l l':=by
 obtain ⟨s1,s2,s3q0,s4q0⟩:=Pm e';obtain ⟨_,e2,_⟩:=Uf.1 e
 have hok:∀ i < l'.length,uS en l' i=true:=fun i hi=>by
  unfold uS
  cases hs:Ib (en.getD i (-1,0)).1 (en.getD i (-1,0)).2 l' with
  | false=>rw [Bool.and_false];rfl
  | true =>
   have n1:=(Mc s1).2 i hi;have n2:=s4q0 i hi;have hlo:=(s3q0.2 (l'.getD i 0) (by rw [List.getD_eq_getElem?_getD,List.getElem?_eq_getElem hi];exact List.getElem_mem hi)).1
   have h0:l'.getD i 0=0:=by
    have a:¬ l'.getD i 0 = -1:=fun g=>n1 ⟨g,hs⟩
    have b:¬ l'.getD i 0 > 0:=fun g=>n2 ⟨g,hs⟩
    omega
   rw [h0];rfl
 rw [e2];refine Js (p:=fun o=>uD o l') (fun x i hx=>vA hok hx i) _ ⟨hh.1.trans s2.1.symm,fun i=>?_⟩;rcases hh.2 i with g|g
 ·exact .inl g
 ·by_cases hm:h'.getD i 0 = -1
  ·exact .inl (g.trans hm)
  ·exact .inr (g.trans (s2.2 i hm).symm)
def wy (p:Pg) (e:Ev):Prop:=0 < p.2.1.length∧p.2.2.2.1=(e.2.2.1.length:Int)∧e.2.2.1.length≤8∧uX (vW p) e.2.2.1=true∧Fs p
theorem wq {x p ins o} (h:GN x=some (p,ins,o)) (k):wy p (Ot k ins o):=by
 have h8:=(eT h).2.1;unfold GN at h;split at h
 ·cases h
 ·rename_i h0;split at h
  ·cases h
  ·rename_i h1;cases h;obtain ⟨_,g⟩:=not_or.1 h0;have hc:BH (Cq x.1.b).1=0:=Decidable.of_not_not (not_or.1 g).2;have hr:=Decidable.of_not_not h1;obtain ⟨q1,q2⟩:=wC hc hr;have hw:=LK (uZ hc).1;have b:=KG (ns:=(Cq x.1.b).1.2.1) ((Cq x.1.b).1.2.1.length+1) (((Cq x.1.b).1.2.1.length:Int) - 1) (0,0,false) (by have:=hw.n0;omega) rfl;have p1:=b.p1;rw [hw.wk] at p1;simp only at p1;have hpl:=TL x.1.b;refine ⟨hw.n0,?_,h8,q1,⟨by omega,by omega,fun x hx=>by have:=hpl.2.2 x hx;omega⟩⟩;show _=(((H3 _ _ _).1.1.length:Nat):Int);rw [q2];omega
def vG (r:List Pg×List Ev):Prop:=r.1.length=r.2.length∧∀ (k:Nat) p e,r.1[k]? = some p→r.2[k]? = some e→wy p e
theorem uP:∀ (l:List Rn) (k:Nat) (a:List Pg×List Ev),vG a→vG (Du l k a)
 | [],k,a,h=>h
 | x::r,k,a,h=>by
  rw [Du];split
  ·exact h
  ·split
   ·exact uP r (k+1) a h
   ·rename_i p ins o hq;refine uP r (k+1) _ ⟨by simp [h.1],fun j q e h1 h2=>?_⟩;simp only at h1 h2;by_cases hj:j < a.1.length
    ·rw [List.getElem?_append_left hj] at h1;rw [List.getElem?_append_left (by have:=h.1;omega)] at h2;exact h.2 j q e h1 h2
    ·have ha:=h.1;by_cases hj2:j=a.1.length
     ·subst hj2;rw [List.getElem?_append_right (Nat.le_refl _)] at h1;rw [ha,List.getElem?_append_right (Nat.le_refl _)] at h2;simp at h1 h2;subst h1 h2;exact wq hq k
     ·rw [List.getElem?_eq_none (by simp;omega)] at h1;cases h1
theorem we (l):vG (F2 l):=uP l 0 ([],[]) ⟨rfl,fun k p e h=>by simp at h⟩
theorem vJ {en t} (h:uX en t=true):∀ x∈t,(0:Int)≤x∧x≤3:=(u0.1 h).1.2
theorem vU {m pgs log} (hb:vG (pgs,log)) {i} (hi:∀ r∈i,GF log r) (hn:i.Nodup):
  ∃ K,FV (EM m log i) pgs=(K,0)∧K.length=log.length∧∀ (k:Nat) p e,pgs[k]? = some p→log[k]? = some e→∃ o l,(LF (log.map AE) (i.map (FB log)))[k]? = some o∧K[k]? = some l∧DS (vW p) o=some l∧uD l e.2.2.1:=by
 have hall:∀ e∈log,∃ p,wy p e:=fun e he=>by
  obtain ⟨k,hk,rfl⟩:=List.getElem_of_mem he;have hl:=hb.1;simp only at hl;have hk':k < pgs.length:=by omega
  exact ⟨_,hb.2 k pgs[k] log[k] (List.getElem?_eq_getElem hk') (List.getElem?_eq_getElem hk)⟩
 have hv:∀ e∈log,∀ t∈e.2.2.1,(0:Int)≤t∧t≤3:=fun e he=>by
  obtain ⟨p,_,_,_,h,_⟩:=hall e he;exact vJ h
 have hck:=(wz (m:=m) hv hi hn).1
 have hcb:(log.map AE).any DP=false:=by
  rw [List.any_eq_false];intro h hh;obtain ⟨e,he,rfl⟩:=List.mem_map.1 hh;obtain ⟨p,_,_,h8,_⟩:=hall e he;show ¬ ((decide ((e.2.2.1.length:Int) < 0) || decide ((e.2.2.1.length:Int) > 8))=true);rw [decide_eq_false (by omega),decide_eq_false (by omega)];decide
 have hsd:∀ (k:Nat) p e,pgs[k]? = some p→log[k]? = some e→∃ o l,(LF (log.map AE) (i.map (FB log)))[k]? = some o∧DS (vW p) o=some l∧uD l e.2.2.1:=fun k p e L he=>by
  obtain ⟨r1,r2,r3,r4,_⟩:=hb.2 k p e L he;obtain ⟨o,a,b,c⟩:=vK hi he
  obtain ⟨l,h1,h2,_⟩:=vO r4 (h:=o) ⟨b,fun j=>by
   rw [c j];split
   ·exact .inr rfl
   ·rw [vQ];split
    ·exact .inl rfl
    ·rename_i hj;rw [List.getD_eq_getElem?_getD,List.getElem?_eq_none (by omega)];exact .inr rfl⟩
  exact ⟨o,l,a,h1,h2⟩
 have hol:(LF (log.map AE) (i.map (FB log))).length=log.length:=by
  unfold LF
  have:∀ (ps:List Pn) (o:List (List Int)),(ps.foldl Gw o).length=o.length:=fun ps=>by
   induction ps with
   | nil=>exact fun o=>rfl
   | cons p ps ih=>exact fun o=>by rw [List.foldl_cons,ih,wL]
  rw [this];simp [Ed]
 have hl:=hb.1;simp only at hl
 obtain ⟨K,k1,k2,k3⟩:=vV pgs (log.map AE) (LF (log.map AE) (i.map (FB log))) [] (by rw [List.length_map];exact hl) (by rw [hol,List.length_map]) (fun k p h o e1 e2 e3=>by
  rw [List.getElem?_map] at e2;obtain ⟨e,he,rfl⟩:=Option.map_eq_some_iff.1 e2;obtain ⟨r1,r2,r3,r4,_⟩:=hb.2 k p e e1 he;obtain ⟨o',l,a,b,_⟩:=hsd k p e e1 he;rw [a] at e3;obtain rfl:=Option.some.inj e3;exact ⟨r1,r2,l,b⟩)
 refine ⟨K,?_,by omega,fun k p e L he=>?_⟩
 ·unfold FV;simp only;rw [if_neg (by rw [hcb,List.length_map];simp [hl]),if_neg (by rw [hck];decide),k1];rfl
 ·obtain ⟨o,l,a,b,c⟩:=hsd k p e L he;obtain ⟨l',d1,d2⟩:=k3 k p o L a;rw [b] at d2;obtain rfl:=Option.some.inj d2;exact ⟨o,l,a,d1,b,c⟩
end Go.Proofs.YtmmbidoldegemaaGreatDoor
namespace Go.Proofs.YtmmbidoldegemaaGreatDoor
open Go.RowKit Go.Sl Go.Proofs.Tryz
theorem Gg {P T E T2 l x y S M a n c n' c'} (hx:Ai l x=.slice a n c) (hy:Ai l y=.slice none n' c') (hT:SlT P T E):
  Qt P l (.binOp .eql T x y T2) S M (.bool a.isNone):=fun dst ty pos af w V=>by
 apply gU ()
set_option maxRecDepth 20000 in
theorem ZJ {S M} (w) (V:St S M w) (v) (xs:List Pn) (hv:RSl S v xs) (hm:xs.length≤1048576):
  Ac prog 24 [v] w fun u w'=>∃ c,RL S c xs∧St S (.sl u 63 4 xs.length c::M) w':=by
 unfold Ac;have hv':=hv;rcases hv with ⟨ad,cap,rfl,rfl,_⟩|⟨b,o,cap,c,T,fz,rfl,_,_,_,_⟩
 ·cases ad with
  | none =>
   go_enter func24,ntmps24;repeat' (first|(apply tB ();refine Ag V (Gg rfl rfl (by infer_instance)) ?_;simp only [Option.isNone_none,Option.isNone_some];apply nZ ())|(apply O ();go_step)|fail)
   go_ret;exact ⟨_,rfl,[],RL.nil,V.nil 63 4⟩
  | some a =>
   go_enter func24,ntmps24;apply wR ()
 ·go_enter func24,ntmps24;repeat' (first|(apply tB ();refine Ag V (Gg rfl rfl (by infer_instance)) ?_;simp only [Option.isNone_none,Option.isNone_some];apply nZ ())|(apply O ();go_step)|fail)
  apply aw ()
set_option maxRecDepth 20000 in
theorem ZL {S M} (w) (V:St S M w) (v) (xs:List Hd) (hv:RSl S v xs) (hm:xs.length≤1048576):
  Ac prog 31 [v] w fun u w'=>∃ c,RL S c xs∧St S (.sl u 59 66 xs.length c::M) w':=by
 unfold Ac;have hv':=hv;rcases hv with ⟨ad,cap,rfl,rfl,_⟩|⟨b,o,cap,c,T,fz,rfl,_,_,_,_⟩
 ·cases ad with
  | none =>
   go_enter func31,ntmps31;repeat' (first|(apply tB ();refine Ag V (Gg rfl rfl (by infer_instance)) ?_;simp only [Option.isNone_none,Option.isNone_some];apply nZ ())|(apply O ();go_step)|fail)
   go_ret;exact ⟨_,rfl,[],RL.nil,V.nil 59 66⟩
  | some a =>
   go_enter func31,ntmps31;apply wR ()
 ·go_enter func31,ntmps31;repeat' (first|(apply tB ();refine Ag V (Gg rfl rfl (by infer_instance)) ?_;simp only [Option.isNone_none,Option.isNone_some];apply nZ ())|(apply O ();go_step)|fail)
  apply aw ()
abbrev ia (S:Ad) (M:List J) (r:Cz×Int) (v:Value) (w:World):Prop:=∃ S' cs,S.Le S'∧v=.tuple #[.agg cs.toArray,.int .i64 r.2]∧Z.R S' cs r.1∧St S' M w
instance oJ:MapT prog 70 57 52:=⟨underlying70⟩
theorem VN {S}:Z.R S Gm JC:=AG (cs:=u8s JC.1.l) (BL rfl) (AG (cs:=[.slice none 0 0]) ⟨_,rfl,.inl ⟨none,0,rfl,rfl,by unfold maxLen;omega⟩⟩ (AG (cs:=[.slice none 0 0]) ⟨_,rfl,.inl ⟨none,0,rfl,rfl,by unfold maxLen;omega⟩⟩ CM))
theorem YO (a b) (Lqq:List Dr) (M):List.Perm (a::b::(Lqq.map BR++M)) (Lqq.map BR++(a::b::M)):=by
 have h:a::b::(Lqq.map BR++M)=[a,b]++(Lqq.map BR++M):=rfl;rw [h,← List.append_assoc];refine (List.Perm.append_right M List.perm_append_comm).trans ?_;simp
theorem fe {S c}:∀ {ps:List Pn} {n:Nat},RL S c ps→RL S c (Srt.tagF Pn ps n):=by
 intro ps n h;have hl:∀ (ps:List Pn) (n:Nat),(Srt.tagF Pn ps n).length=ps.length:=fun ps n=>by rw [← List.length_map (f:=fun t:Srt.Tg Pn=>t.x),Srt.tagF_map]
 refine ⟨by rw [hl];exact h.1,fun i x hx=>?_⟩
 have:ps[i]? = some x.x:=by
  rw [← Srt.tagF_map ps n,List.getElem?_map,hx];rfl
 exact h.2 i _ this
theorem Ys {S c} {ys:List TP} (h:RL S c ys):RL S c (ys.map (·.x)):=by
 refine ⟨by rw [List.length_map];exact h.1,fun i x hx=>?_⟩;rw [List.getElem?_map] at hx
 cases e:ys[i]? with
 | none=>rw [e] at hx;cases hx
 | some y=>rw [e] at hx;cases hx;exact h.2 i _ e
def ly (x:Cz):Option (List Pn)→Cz×Int
 | none=>(JC,15)
 | some out=>((x.1,x.2.1,Srt.sortR kP out,()),0)
theorem YN (a b Lqq e M):List.Perm (BR e::a::b::(Lqq.map BR++M)) (a::b::((Lqq++[e]).map BR++M)):=by
 have h1:((Lqq++[e]).map BR++M)=Lqq.map BR++(BR e::M):=by simp
 rw [h1];apply jD ()
theorem P4 (a b l1 l2 e M):List.Perm (BR e::a::b::((l1++l2).map BR++M)) (a::b::((l1++e::l2).map BR++M)):=by
 have h1:((l1++e::l2).map BR++M)=l1.map BR++(BR e::(l2.map BR++M)):=by simp
 have h2:((l1++l2).map BR++M)=l1.map BR++(l2.map BR++M):=by simp
 rw [h1,h2];apply jD ()
theorem ZO (xs x):cF Ba xs++[.int .i64 x]=cF Ba (xs++[x]):=by simp [cF,Ba]
set_option maxRecDepth 20000 in
theorem V8 {S M} (w) (V:St S M w) (pX p) (L:Pt S pX p) (n):
  Ac prog 26 [.int .i64 n,pX] w fun v w'=>v=.bool (decide (n≠DK p))∧St S M w':=by
 unfold Ac;obtain ⟨z,hz⟩:∃ z,(n != p.2.2.1)=z:=⟨_,rfl⟩
 have hd:decide (n≠DK p)=z:=by rw [← hz];unfold DK;by_cases h:n=p.2.2.1<;>simp [h]
 rw [hd];clear hd;go_enter func26,ntmps26;repeat' (first|(apply tF ();refine An V (As X L Y Y rfl) ?_;rintro v5 hp5<;>apply nZ ())|apply sK ()|(apply O ();go_step)|(apply tL ();refine An V (Am X hp5 Y) ?_;rintro v6 ⟨rfl,hI6⟩<;>apply nZ ())|fail)
 go_ret;exact ⟨_,rfl,rfl,V⟩
set_option maxRecDepth 20000 in
theorem IS {S M} (w) (V:St S M w) (c1 x) (hx:Z.R S c1 x) (c2 y) (hy:Z.R S c2 y) (hmx:x.2.2.1.length≤100000) (hmy:y.2.2.1.length≤100000) (hmh:x.2.1.length≤100000):
  Ac prog 10 [.agg c1.toArray,.agg c2.toArray] w (ia S M (Ep x y)):=by
 unfold Ac;have hx16:x.1.l.length=16:=hx.2.1.1;have hy16:y.1.l.length=16:=hy.2.1.1;obtain ⟨R,hR⟩:∃ R,Ep x y=R:=⟨_,rfl⟩
 rw [hR];have HR:=Lib.hid hR;clear hR;have hone1:=Z.one hx;have hone2:=Z.one hy;go_enter func10,ntmps10;repeat' ((apply ZZ 0);first|(apply O ();go_step)|fail)
 refine wp_region_lit ?_;refine I5 (cs:=c1) V X rfl ?_;clear V;intro b1 w V;apply nZ ();refine I5 (cs:=c2) V X rfl ?_;clear V;intro b2 w V;apply nZ ();repeat' ((apply ZZ 1);first|(apply O ();go_step)|(apply sZ ();clear V;intro bk w V)|fail)
 rename Nat=>bE
 have hst0:St S (.box b2 c2 27::.box bE Gm 27::.box b1 c1 27::M) _:=V.move (k:=1) rfl;clear V;obtain ⟨S1,hS1,hst1,hpy⟩:=AC (α:=Cz) hst0 hy (Z.len hy);clear hst0;have hst0:St S1 (.box b1 c1 27::.box bE Gm 27::M) _:=hst1.move (k:=1) rfl;clear hst1;obtain ⟨S2,hS2,V,hpx⟩:=AC (α:=Cz) hst0 (Z.mono hS1 hx) (Z.len hx);clear hst0;replace hpy:=Pt.mono hS2 hpy;generalize Value.pointer (some ⟨b1,0,none⟩)=pX at *;generalize Value.pointer (some ⟨b2,0,none⟩)=pY at *;have hle2:=hS1.trans hS2;have hcx:=Z.mono hle2 hx;have hcy:=Z.mono hle2 hy;clear hx hy hS1 hS2;by_cases hm:x.1=y.1
 ·have hz1:decide (x.1=y.1)=true:=decide_eq_true hm;by_cases hh:x.2.1=y.2.1
  ·have HM:Hid (ly x (IJ x.2.2.1 y.2.2.1 x.2.2.1)=R):=Lib.hid (by rw [← HR.out];unfold Ep;rw [if_pos ⟨hm,hh⟩];cases IJ x.2.2.1 y.2.2.1 x.2.2.1<;>rfl);have cEq:=fun {M} w (V:St S2 M w) (va vb:Value) (ha:RSl S2 va x.2.1) (hb:RSl S2 vb y.2.1)=>QP w V va vb x.2.1 y.2.1 ha hb (by omega)
   rw [decide_eq_true hh] at cEq;clear HR hm hh;repeat' ((apply ZZ 3);first|(apply tB ();refine Ag V (ET rfl rfl (BL hx16) (BL hy16) Y Y inferInstance hz1) ?_<;>apply nZ ())|apply sG ()|(apply O ();go_step)|(apply tL ();refine An V (Aj (y:=x.2.1) X Ak Y) ?_;rintro vha ⟨hvha,hvha1⟩<;>apply nZ ())|(apply tL ();refine An V (Aj (y:=y.2.1) X Ak Y) ?_;rintro vhb ⟨hvhb,hvhb1⟩<;>apply nZ ())|(apply kc ();refine sc (cEq _ V vha vhb hvha hvhb) ?_;clear V;rintro v w ⟨rfl,V⟩)|apply sP ()|(apply sJ ();intro v L)|fail)
   refine wp_region_lit ?_;refine KQ V ?_;clear V;intro bm w V;apply nZ ();clear cEq;repeat' (first|(apply O ();go_step)|(apply tL ();refine An V (Aj (y:=x.2.2.1) X Ak Y) ?_;rintro vpa ⟨hvpa,hvpa1⟩<;>apply nZ ())|apply sY ()|(apply sJ ();intro v L)|fail)
   have hI:=fE hvpa;generalize hps:x.2.2.1=ps at *;have HPS:=Lib.hid hps;clear hps
   go_loopw [32] (fun u32 wr=>∃ (i clock:Nat) (es:Array MapEntry) (Lqq:List Dr) (T:Ad),i≤ps.length∧u32=.int .i64 (i:Int)∧S2.Le T∧Hid (HY Lqq (ps.take i))∧BS T es.toList (EV Lqq)∧St T (.obj bm (.map es clock)::.box bE Gm 27::(Lqq.map BR++M)) wr) (fun v _=>ps.length - (intOf v).toNat)
   case atStart=>exact ⟨0,0,#[],[],S2,Nat.zero_le _,rfl,Ad.Le.refl S2,Lib.hid eH,trivial,V⟩
   case round =>
    clear V;obtain ⟨i,clock,es,Lqq,T,hi,rfl,hT,HK,hmap,V⟩:=hrel;by_cases hlt:i < ps.length
    ·have hsn:=List.take_succ_eq_append_getElem hlt;have hvT:=hvpa.mono hT;have hIp:=hI _ (List.getElem_mem hlt);by_cases hk0:C1 (ps.take i) (kP ps[i])=[]
     ·have hat:=HK.out.no hk0;have HKN:=Lib.hid (HK.out.new hk0);rw [← hsn] at HKN;have HKV:=Lib.hid (Sk Lqq);have HPM:=Lib.hid (fun e a b=>YN a b Lqq e M);clear HK hk0 hsn;generalize hN:Lqq.map BR++M=Nqq at *;generalize hkv:EV Lqq=kvs at *;clear hN hkv;repeat' ((apply ZZ 6);first|(apply O ();go_step)|fail)
      refine wp_region_lit ?_;repeat' (first|(apply tL ();refine An V (Aw X Ak Y) ?_;rintro v ⟨cl,rfl,hcl⟩<;>apply nZ ())|(apply sJ ();intro v L)|(apply sZ ();clear V;intro bk w V)|fail)
      have hclx:=hcl;obtain ⟨sx,rfl,hx0,hx1,hx2,hx3⟩:=CK hcl;clear hcl;have hRk0:Z.R T (Bi (kP ps[i])) (kP ps[i]):=Df hx1 hx2;rw [show Z.agg Pn=true from rfl];apply nZ ();repeat' ((apply ZZ 7);first|(apply O ();go_step)|(apply sT ();clear V;intro w V)|fail)
      obtain ⟨T1,hT1,hst1,hpq⟩:=AC (α:=Pn) V hclx rfl;clear V;have V:=hst1;clear hst1 hclx hx0;generalize Value.pointer (some ⟨_,0,none⟩)=pQ at hpq;have hmap:=hmap.mono hT1;have hRk:=Z.mono hT1 hRk0;clear hRk0;replace V:=V.nil 3 1;refine Bm V kr ?_;clear V;intro w V;have hSS:=Cn V;apply nZ ();refine pd 0 rfl ?_;refine px 1 rfl (Aw (y:=ps[i]) X hpq Y) ?_;rintro v1 ⟨cc1,rfl,hcc1⟩;refine pd 3 rfl ?_;refine px 4 rfl (Aw (y:=ps[i]) X hpq Y) ?_;rintro v4 ⟨cc4,rfl,hcc4⟩;refine px 7 rfl (As X hpq Y Y rfl) ?_;rintro v7 hp7;refine px 8 rfl (Am X hp7 Y) ?_;rintro v8 ⟨rfl,hI8⟩;refine Cp 2 9 rfl rfl kr ?_ ?_;intro K G;refine sc (Dx w V cc1 ps[i] (Z.mono hSS hcc1)) ?_;clear V;rintro v2 w ⟨rfl,V⟩;refine pn G ?_;clear G K;refine Cp 5 9 rfl rfl kr ?_ ?_;intro K G;refine sc (Dx w V cc4 ps[i] (Z.mono hSS hcc4)) ?_;clear V;rintro v5 w ⟨rfl,V⟩;refine pn G ?_;clear G K;refine Cp 6 9 rfl rfl kr ?_ ?_;intro K G;apply uU ();simp only [Bool.false_eq_true,if_false,hat,Option.getD_none,Ap];refine pn G ?_;clear G K;refine po 9 rfl ?_;intro K G;apply uT ();clear V;intro x9 w V;(try replace V:=nH V);refine pn G ?_;clear G K;refine po 10 rfl ?_;intro K G;apply uC ();clear V;intro x10 w V;(try replace V:=nH V);replace V:=V.drop;have hone10:=Go.Sl.AY V;(try replace V:=nH V);refine pn G ?_;clear G K
      refine po 11 rfl ?_;intro K G;apply vY ();clear V;intro es2 w hmap2 V;(try replace V:=nH V);refine pn G ?_;clear G K;refine AK kr ?_;rotate_left;intro K G;apply uT ();clear V;intro x9 w V;(try replace V:=nH V);refine pn G ?_;clear G K;refine po 6 rfl ?_;intro K G;apply uU ();simp only [Bool.false_eq_true,if_false,hat,Option.getD_none,Ap];refine pn G ?_;clear G K;refine po 10 rfl ?_;intro K G;apply uC ();clear V;intro x10 w V;(try replace V:=nH V);replace V:=V.drop;have hone10:=Go.Sl.AY V;(try replace V:=nH V);refine pn G ?_;clear G K;refine po 11 rfl ?_;intro K G;apply vY ();clear V;intro es2 w hmap2 V;(try replace V:=nH V);refine pn G ?_;clear G K;refine AK kr ?_;rotate_left;intro K G;apply uT ();clear V;intro x9 w V;(try replace V:=nH V);refine pn G ?_;clear G K;refine po 5 rfl ?_;intro K G;refine sc (Dx w V cc4 ps[i] (Z.mono hSS hcc4)) ?_;clear V;rintro v5 w ⟨rfl,V⟩;refine pn G ?_;clear G K;refine po 6 rfl ?_;intro K G;apply uU ();simp only [Bool.false_eq_true,if_false,hat,Option.getD_none,Ap];refine pn G ?_;clear G K;refine po 10 rfl ?_;intro K G;apply uC ();clear V;intro x10 w V;(try replace V:=nH V);replace V:=V.drop;have hone10:=Go.Sl.AY V;(try replace V:=nH V);refine pn G ?_;clear G K;refine po 11 rfl ?_;intro K G;apply vY ();clear V;intro es2 w hmap2 V;(try replace V:=nH V);refine pn G ?_;clear G K;refine AK kr ?_;rotate_left
      intro K G;apply uT ();clear V;intro x9 w V;(try replace V:=nH V);refine pn G ?_;clear G K;refine po 2 rfl ?_;intro K G;refine sc (Dx w V cc1 ps[i] (Z.mono hSS hcc1)) ?_;clear V;rintro v2 w ⟨rfl,V⟩;refine pn G ?_;clear G K;refine po 5 rfl ?_;intro K G;refine sc (Dx w V cc4 ps[i] (Z.mono hSS hcc4)) ?_;clear V;rintro v5 w ⟨rfl,V⟩;refine pn G ?_;clear G K;refine po 6 rfl ?_;intro K G;apply uU ();simp only [Bool.false_eq_true,if_false,hat,Option.getD_none,Ap];refine pn G ?_;clear G K;refine po 10 rfl ?_;intro K G;apply uC ();clear V;intro x10 w V;(try replace V:=nH V);replace V:=V.drop;have hone10:=Go.Sl.AY V;(try replace V:=nH V);refine pn G ?_;clear G K;refine po 11 rfl ?_;intro K G;apply vY ();clear V;intro es2 w hmap2 V;(try replace V:=nH V);refine pn G ?_;clear G K;refine AK kr ?_;rotate_left
      all_goals
       obtain ⟨ay,cy,rfl⟩:=Go.Sl.sl_formk (k:=0) V rfl;repeat' (first|(apply O ();go_step)|fail)
       go_roundw
       case rel=>exact ⟨i+1,clock+1,es2,Lqq++[⟨kP ps[i],ay,cy,[DK ps[i]]⟩],T1,by omega,by go_num,hT.trans (hT1.trans hSS),Lib.hid (HKN.out ay cy),by rw [HKV.out];exact hmap2,V.perm (HPM.out ⟨kP ps[i],ay,cy,[DK ps[i]]⟩ _ _)⟩
       case measure=>simp [intOf];omega
     ·obtain ⟨l1,e,l2,rfl,ek,ex,hat,hset⟩:=HK.out.yes hk0;have hel:e.xs.length≤i:=by rw [ex];exact Nat.le_trans (OD _ _) (by rw [List.length_take];omega)
      have HKN:=Lib.hid (HK.out.old ek);rw [← hsn] at HKN;have HSET:=Lib.hid hset;have HPM:=Lib.hid (fun e a b=>P4 a b l1 l2 e M);have hst0:=V.perm (P4 _ _ l1 l2 e M).symm;clear HK hk0 hsn hset V ek ex;obtain ⟨ek0,ea,ec,exs⟩:=e;simp only at hel;generalize hN:(l1++l2).map BR++M=Nqq at *;generalize hkv:EV (l1++⟨ek0,ea,ec,exs⟩::l2)=kvs at *;have V:St T (.sl (.slice ea exs.length ec) 3 1 exs.length (cF Ba exs)::.obj bm (.map es clock)::.box bE Gm 27::Nqq) _:=hst0;replace hat:BD kvs (kP ps[i])=some (.slice ea exs.length ec):=hat;clear hN hkv hst0;repeat' ((apply ZZ 6);first|(apply O ();go_step)|fail)
      refine wp_region_lit ?_;repeat' (first|(apply tL ();refine An V (Aw X Ak Y) ?_;rintro v ⟨cl,rfl,hcl⟩<;>apply nZ ())|(apply sJ ();intro v L)|(apply sZ ();clear V;intro bk w V)|fail)
      have hclx:=hcl;obtain ⟨sx,rfl,hx0,hx1,hx2,hx3⟩:=CK hcl;clear hcl;have hRk0:Z.R T (Bi (kP ps[i])) (kP ps[i]):=Df hx1 hx2;rw [show Z.agg Pn=true from rfl];apply nZ ();repeat' ((apply ZZ 7);first|(apply O ();go_step)|(apply sT ();clear V;intro w V)|fail)
      obtain ⟨T1,hT1,hst1,hpq⟩:=AC (α:=Pn) V hclx rfl;clear V;have V:=hst1;clear hst1 hclx hx0;generalize Value.pointer (some ⟨_,0,none⟩)=pQ at hpq;have hmap:=hmap.mono hT1;have hRk:=Z.mono hT1 hRk0;clear hRk0;refine Bm V kr ?_;clear V;intro w V;have hSS:=Cn V;apply nZ ();refine pd 0 rfl ?_;refine px 1 rfl (Aw (y:=ps[i]) X hpq Y) ?_;rintro v1 ⟨cc1,rfl,hcc1⟩;refine pd 3 rfl ?_;refine px 4 rfl (Aw (y:=ps[i]) X hpq Y) ?_;rintro v4 ⟨cc4,rfl,hcc4⟩;refine px 7 rfl (As X hpq Y Y rfl) ?_;rintro v7 hp7;refine px 8 rfl (Am X hp7 Y) ?_;rintro v8 ⟨rfl,hI8⟩;refine Cp 2 9 rfl rfl kr ?_ ?_;intro K G;refine sc (Dx w V cc1 ps[i] (Z.mono hSS hcc1)) ?_;clear V;rintro v2 w ⟨rfl,V⟩;refine pn G ?_;clear G K;refine Cp 5 9 rfl rfl kr ?_ ?_;intro K G;refine sc (Dx w V cc4 ps[i] (Z.mono hSS hcc4)) ?_;clear V;rintro v5 w ⟨rfl,V⟩;refine pn G ?_;clear G K;refine Cp 6 9 rfl rfl kr ?_ ?_;intro K G;apply uU ();simp only [Bool.false_eq_true,if_false,hat,Option.getD_some,Ap];refine pn G ?_;clear G K;refine po 9 rfl ?_;intro K G;apply uT ();clear V;intro x9 w V;(try replace V:=nH V);refine pn G ?_;clear G K;refine po 10 rfl ?_;intro K G;apply uC ();clear V;intro x10 w V;(try replace V:=nH V);replace V:=V.drop;have hone10:=Go.Sl.AY V;(try replace V:=nH V);refine pn G ?_;clear G K;refine po 11 rfl ?_;intro K G;apply vX ();clear V;intro es2 w hmap2 V;(try replace V:=nH V);refine pn G ?_;clear G K
      refine AK kr ?_;rotate_left;intro K G;apply uT ();clear V;intro x9 w V;(try replace V:=nH V);refine pn G ?_;clear G K;refine po 6 rfl ?_;intro K G;apply uU ();simp only [Bool.false_eq_true,if_false,hat,Option.getD_some,Ap];refine pn G ?_;clear G K;refine po 10 rfl ?_;intro K G;apply uC ();clear V;intro x10 w V;(try replace V:=nH V);replace V:=V.drop;have hone10:=Go.Sl.AY V;(try replace V:=nH V);refine pn G ?_;clear G K;refine po 11 rfl ?_;intro K G;apply vX ();clear V;intro es2 w hmap2 V;(try replace V:=nH V);refine pn G ?_;clear G K;refine AK kr ?_;rotate_left;intro K G;apply uT ();clear V;intro x9 w V;(try replace V:=nH V);refine pn G ?_;clear G K;refine po 5 rfl ?_;intro K G;refine sc (Dx w V cc4 ps[i] (Z.mono hSS hcc4)) ?_;clear V;rintro v5 w ⟨rfl,V⟩;refine pn G ?_;clear G K;refine po 6 rfl ?_;intro K G;apply uU ();simp only [Bool.false_eq_true,if_false,hat,Option.getD_some,Ap];refine pn G ?_;clear G K;refine po 10 rfl ?_;intro K G;apply uC ();clear V;intro x10 w V;(try replace V:=nH V);replace V:=V.drop;have hone10:=Go.Sl.AY V;(try replace V:=nH V);refine pn G ?_;clear G K;refine po 11 rfl ?_;intro K G;apply vX ();clear V;intro es2 w hmap2 V;(try replace V:=nH V);refine pn G ?_;clear G K;refine AK kr ?_;rotate_left;intro K G;apply uT ();clear V;intro x9 w V;(try replace V:=nH V);refine pn G ?_;clear G K
      refine po 2 rfl ?_;intro K G;refine sc (Dx w V cc1 ps[i] (Z.mono hSS hcc1)) ?_;clear V;rintro v2 w ⟨rfl,V⟩;refine pn G ?_;clear G K;refine po 5 rfl ?_;intro K G;refine sc (Dx w V cc4 ps[i] (Z.mono hSS hcc4)) ?_;clear V;rintro v5 w ⟨rfl,V⟩;refine pn G ?_;clear G K;refine po 6 rfl ?_;intro K G;apply uU ();simp only [Bool.false_eq_true,if_false,hat,Option.getD_some,Ap];refine pn G ?_;clear G K;refine po 10 rfl ?_;intro K G;apply uC ();clear V;intro x10 w V;(try replace V:=nH V);replace V:=V.drop;have hone10:=Go.Sl.AY V;(try replace V:=nH V);refine pn G ?_;clear G K;refine po 11 rfl ?_;intro K G;apply vX ();clear V;intro es2 w hmap2 V;(try replace V:=nH V);refine pn G ?_;clear G K;refine AK kr ?_;rotate_left
      all_goals
       obtain ⟨ay,cy,rfl⟩:=Go.Sl.sl_formk (k:=0) V rfl
       have hstE:St T1 (BR ⟨kP ps[i],ay,cy,exs++[DK ps[i]]⟩::.obj bm (.map es2 clock)::.box bE Gm 27::Nqq) w:=by
        show St T1 (.sl (.slice ay (exs++[DK ps[i]]).length cy) 3 1 (exs++[DK ps[i]]).length (cF Ba (exs++[DK ps[i]]))::_) _;rw [← ZO,List.length_append];exact V
       have hmE:BS T1 es2.toList (EV (l1++⟨kP ps[i],ay,cy,exs++[DK ps[i]]⟩::l2)):=by
        rw [HSET.out] at hmap2;rw [Sk];show BS T1 es2.toList (EV l1++(kP ps[i],.slice ay (exs++[DK ps[i]]).length cy)::EV l2);rw [List.length_append];exact hmap2
       clear V hmap2;have V:=hstE;clear hstE;repeat' (first|(apply O ();go_step)|fail)
       go_roundw
       case rel=>exact ⟨i+1,clock,es2,l1++⟨kP ps[i],ay,cy,exs++[DK ps[i]]⟩::l2,T1,by omega,by go_num,hT.trans (hT1.trans hSS),Lib.hid (HKN.out ay cy),hmE,V.perm (HPM.out ⟨kP ps[i],ay,cy,exs++[DK ps[i]]⟩ _ _)⟩
       case measure=>simp [intOf];omega
    ·obtain rfl:i=ps.length:=by omega
     rw [List.take_length] at HK
     obtain ⟨T1,hT1,hfr,hst1⟩:=On (V.perm (YO _ _ Lqq M)) (fun e he v hv=>by
      rw [(HK.out.xs e he).1] at hv;obtain ⟨q,hq,rfl⟩:=List.mem_map.1 hv;exact hI q (List.mem_filter.1 hq).1)
     clear V;have V:=hst1;clear hst1;replace hmap:=hmap.mono hT1;have hle3:=hle2.trans (hT.trans hT1);have hpx3:=Pt.mono (hT.trans hT1) hpx;have hpy3:=Pt.mono (hT.trans hT1) hpy;have HF:=Lib.hid hfr;clear hfr hpx hpy hvpa hcx hcy hi hlt hT hT1;repeat' ((apply ZZ 9);first|(apply O ();go_step)|fail)
     repeat' ((apply ZZ 10);first|(apply O ();go_step)|(apply tL ();refine An V (Aj (y:=x.2.2.1) X Ak Y) ?_;rintro vq ⟨hvq,hvq1⟩;rw [HPS.out] at hvq<;>apply nZ ())|(apply kc ();refine sc (ZJ _ V vq ps hvq (by omega)) ?_;clear V;rintro v w ⟨cq,hCq,V⟩)|(apply sJ ();intro v L)|fail)
     obtain ⟨ao,ko,rfl⟩:=Go.Sl.sl_formk (k:=0) V rfl;clear hvq;repeat' (first|(apply O ();go_step)|(apply tL ();refine An V (Aj (y:=y.2.2.1) X Ak Y) ?_;rintro vb ⟨hvb,hvb1⟩<;>apply nZ ())|apply sY ()|(apply sJ ();intro v L)|fail)
     generalize hqs:y.2.2.1=qs at *;clear hqs;have hone9:=BE (k:=0) V rfl
     go_loopw [9,54] (fun u9 u54 wr=>∃ (i n:Nat) (T:Ad) (ao:Option Addr) (ko:Nat) (co:List Value) (out:List Pn),i≤qs.length∧n≤ps.length+i∧T1.Le T∧u9=.slice ao n ko∧u54=.int .i64 (i:Int)∧Hid (IJ ps (qs.drop i) out=IJ ps qs ps)∧Hid (n=out.length)∧RL T co out∧St T (.sl (.slice ao n ko) 63 4 n co::.obj bm (.map es clock)::.box bE Gm 27::M) wr) (fun _ v _=>qs.length - (intOf v).toNat)
     case atStart=>exact ⟨0,ps.length,T1,ao,ko,cq,ps,Nat.zero_le _,by omega,Ad.Le.refl T1,rfl,rfl,Lib.hid rfl,Lib.hid rfl,hCq,V⟩
     case round =>
      clear V hCq hone9;obtain ⟨i,n,T,ao,ko,co,out,hi,hn,hT,rfl,rfl,HQ,HL,hCo,V⟩:=hrel;have hone9:=BE (k:=0) V rfl;by_cases hlt:i < qs.length
      ·have hvT:=hvb.mono hT;have HQN:=HQ.out;rw [List.drop_eq_getElem_cons hlt,IJ] at HQN;by_cases hk0:C1 ps (kP qs[i])=[]
       ·have hat:=HK.out.no hk0;rw [hk0,if_neg (by simp),if_pos rfl] at HQN;have HQN:=Lib.hid HQN;clear HQ hk0;repeat' ((apply ZZ 12);first|(apply O ();go_step)|fail)
        refine wp_region_lit ?_;repeat' (first|(apply tL ();refine An V (Aw X Ak Y) ?_;rintro v ⟨cl,rfl,hcl⟩<;>apply nZ ())|(apply sJ ();intro v L)|(apply sZ ();clear V;intro bk w V)|fail)
        have hclx:=hcl;obtain ⟨sx,rfl,hx0,hx1,hx2,hx3⟩:=CK hcl;clear hcl;have hRk0:Z.R T (Bi (kP qs[i])) (kP qs[i]):=Df hx1 hx2;rw [show Z.agg Pn=true from rfl];apply nZ ();repeat' ((apply ZZ 13);first|(apply O ();go_step)|(apply sT ();clear V;intro w V)|fail)
        obtain ⟨T1',hT1',hst1,hpq⟩:=AC (α:=Pn) V hclx rfl;clear V;have V:=hst1;clear hst1 hx0;generalize Value.pointer (some ⟨_,0,none⟩)=pQ at hpq;have hmap:=hmap.mono (hT.trans hT1');have hRk:=Z.mono hT1' hRk0;clear hRk0;have cF:∀ {M:List J} (w:World) (V:St T1' M w),Ac prog 25 [.slice none 0 0,.func (.func 26) #[] #[pQ]] w fun v w'=>v=.bool false∧St T1' M w':=fun {M} w V=>GX w V (.slice none 0 0) [] (.inl ⟨none,0,rfl,rfl,by unfold maxLen;omega⟩) (by simp) _ (by infer_instance) [pQ] _ (fun x w hx V=>V8 w V pQ qs[i] hpq x)
        repeat' ((apply ZZ 17);first|(with_reducible (refine Ag V (CB (x:=kP qs[i]) (cs:=Bi (kP qs[i])) X rfl Y Y kr Y Y Y hmap hRk true) ?_;simp only [if_true,hat,Option.getD_none,Option.isSome_none,Ap])<;>apply nZ ())|(apply O ();go_step)|(apply tL ();refine An V (Aw (y:=qs[i]) X hpq Y) ?_;rintro v60 ⟨c60,rfl,hc60⟩<;>apply nZ ())|(apply kc ();refine sc (Dx _ V c60 qs[i] hc60) ?_;clear V;rintro v w ⟨rfl,V⟩)|(apply kc ();refine sc (cF _ V) ?_;clear V;rintro v w ⟨rfl,V⟩)|fail)
        repeat' (first|(apply O ();go_step)|(apply tL ();refine An V (Aw (y:=qs[i]) X hpq Y) ?_;rintro v72 ⟨c72,rfl,hc72⟩<;>apply nZ ())|fail)
        have hc72x:=hc72;obtain ⟨s72,rfl,_,_,_,_⟩:=CK hc72;clear hc72;rw [show Z.agg Pn=true from rfl];apply nZ ();refine Ay (vs:=[(.agg #[.int .i64 qs[i].1,.int .i64 qs[i].2.1,.int .i64 qs[i].2.2.1,.slice s72.1 s72.2.1 s72.2.2])]) V Y Y rfl rfl (by simp [Value.cells]) rfl (by omega) (by omega) ?_;clear V;intro u w V;refine nY ?_;apply uC ();clear V;intro v' w V;refine nY ?_;(try replace V:=nH V);replace V:=V.drop;obtain ⟨ay,cy,rfl⟩:=Go.Sl.sl_formk (k:=0) V rfl;apply nZ ();repeat' (first|(apply O ();go_step)|fail)
        go_roundw
        case rel=>exact ⟨i+1,n+1,T1',ay,cy,_,out++[qs[i]],by omega,by omega,hT.trans hT1',rfl,by go_num,HQN,Lib.hid (by rw [List.length_append,← HL.out];rfl),(hCo.mono hT1').append (RL.one_mk hc72x),V⟩
        case measure=>simp [intOf];omega
       ·obtain ⟨l1,e,l2,hLe,ek,ex,hat,_⟩:=HK.out.yes hk0;have hre:=HF.out e (by rw [hLe];exact List.mem_append_right _ List.mem_cons_self);have hel:e.xs.length≤100000:=by rw [ex];exact Nat.le_trans (OD _ _) hmx
        obtain ⟨zb,hzb⟩:∃ z,(C1 ps (kP qs[i])).any (fun n=>decide (n≠DK qs[i]))=z:=⟨_,rfl⟩
        rw [hzb,if_neg hk0] at HQN;rw [← ex] at hzb;clear hLe ek ex hk0 HQ;obtain ⟨ek0,ea,ec,exs⟩:=e;replace hat:BD (EV Lqq) (kP qs[i])=some (.slice ea exs.length ec):=hat;replace hre:RSl T1 (.slice ea exs.length ec) exs:=hre;replace hzb:exs.any (fun n=>decide (n≠DK qs[i]))=zb:=hzb;simp only at hel
        cases zb with
        | true =>
         rw [if_pos rfl] at HQN;have HN:Hid ((JC,15)=R):=Lib.hid (by rw [← HM.out,← HQN];rfl);clear HQN;repeat' ((apply ZZ 12);first|(apply O ();go_step)|fail)
         refine wp_region_lit ?_;repeat' (first|(apply tL ();refine An V (Aw X Ak Y) ?_;rintro v ⟨cl,rfl,hcl⟩<;>apply nZ ())|(apply sJ ();intro v L)|(apply sZ ();clear V;intro bk w V)|fail)
         have hclx:=hcl;obtain ⟨sx,rfl,hx0,hx1,hx2,hx3⟩:=CK hcl;clear hcl;have hRk0:Z.R T (Bi (kP qs[i])) (kP qs[i]):=Df hx1 hx2;rw [show Z.agg Pn=true from rfl];apply nZ ();repeat' ((apply ZZ 13);first|(apply O ();go_step)|(apply sT ();clear V;intro w V)|fail)
         obtain ⟨T1',hT1',hst1,hpq⟩:=AC (α:=Pn) V hclx rfl;clear V;have V:=hst1;clear hst1 hx0;generalize Value.pointer (some ⟨_,0,none⟩)=pQ at hpq;have hmap:=hmap.mono (hT.trans hT1');have hRk:=Z.mono hT1' hRk0;clear hRk0
         have cF:∀ {M:List J} (w:World) (V:St T1' M w),Ac prog 25 [.slice ea exs.length ec,.func (.func 26) #[] #[pQ]] w fun v w'=>v=.bool true∧St T1' M w':=fun {M} w V=>by
          apply jL ()
         repeat' (first|(with_reducible (refine Ag V (CB (x:=kP qs[i]) (cs:=Bi (kP qs[i])) X rfl Y Y kr Y Y Y hmap hRk true) ?_;simp only [if_true,hat,Option.getD_some,Option.isSome_some,Ap])<;>apply nZ ())|(apply O ();go_step)|(apply tL ();refine An V (Aw (y:=qs[i]) X hpq Y) ?_;rintro v60 ⟨c60,rfl,hc60⟩<;>apply nZ ())|(apply kc ();refine sc (Dx _ V c60 qs[i] hc60) ?_;clear V;rintro v w ⟨rfl,V⟩)|(apply kc ();refine sc (cF _ V) ?_;clear V;rintro v w ⟨rfl,V⟩)|(apply sT ();clear V;intro w V)|fail)
         apply vZ ();(try simp only [AV,List.drop_zero,List.drop_succ_cons,List.take_succ_cons,List.take_zero,AB,Ap]);exact ⟨_,rfl,T1',Gm,hle3.trans (hT.trans hT1'),by rw [← HN.out],by rw [← HN.out];exact VN,V.drop.drop.drop⟩
        | false =>
         rw [if_neg (by decide)] at HQN;have HQN:=Lib.hid HQN;repeat' ((apply ZZ 12);first|(apply O ();go_step)|fail)
         refine wp_region_lit ?_;repeat' (first|(apply tL ();refine An V (Aw X Ak Y) ?_;rintro v ⟨cl,rfl,hcl⟩<;>apply nZ ())|(apply sJ ();intro v L)|(apply sZ ();clear V;intro bk w V)|fail)
         have hclx:=hcl;obtain ⟨sx,rfl,hx0,hx1,hx2,hx3⟩:=CK hcl;clear hcl;have hRk0:Z.R T (Bi (kP qs[i])) (kP qs[i]):=Df hx1 hx2;rw [show Z.agg Pn=true from rfl];apply nZ ();repeat' ((apply ZZ 13);first|(apply O ();go_step)|(apply sT ();clear V;intro w V)|fail)
         obtain ⟨T1',hT1',hst1,hpq⟩:=AC (α:=Pn) V hclx rfl;clear V;have V:=hst1;clear hst1 hx0;generalize Value.pointer (some ⟨_,0,none⟩)=pQ at hpq;have hmap:=hmap.mono (hT.trans hT1');have hRk:=Z.mono hT1' hRk0;clear hRk0
         have cF:∀ {M:List J} (w:World) (V:St T1' M w),Ac prog 25 [.slice ea exs.length ec,.func (.func 26) #[] #[pQ]] w fun v w'=>v=.bool false∧St T1' M w':=fun {M} w V=>by
          apply jL ()
         repeat' (first|(with_reducible (refine Ag V (CB (x:=kP qs[i]) (cs:=Bi (kP qs[i])) X rfl Y Y kr Y Y Y hmap hRk true) ?_;simp only [if_true,hat,Option.getD_some,Option.isSome_some,Ap])<;>apply nZ ())|(apply O ();go_step)|(apply tL ();refine An V (Aw (y:=qs[i]) X hpq Y) ?_;rintro v60 ⟨c60,rfl,hc60⟩<;>apply nZ ())|(apply kc ();refine sc (Dx _ V c60 qs[i] hc60) ?_;clear V;rintro v w ⟨rfl,V⟩)|(apply kc ();refine sc (cF _ V) ?_;clear V;rintro v w ⟨rfl,V⟩)|fail)
         go_roundw
         case rel=>exact ⟨i+1,n,T1',ao,ko,co,out,by omega,by omega,hT.trans hT1',rfl,by go_num,HQN,HL,hCo.mono hT1',V⟩
         case measure=>simp [intOf];omega
      ·have HQN:=HQ.out;rw [List.drop_of_length_le (by omega),IJ] at HQN;have HN:Hid (((x.1,x.2.1,Srt.sortR kP out,()),0)=R):=Lib.hid (by rw [← HM.out,← HQN];rfl);have hpx4:=Pt.mono hT hpx3;clear HQ HQN HM hpx3 hpy3 hvb HF hmap;have hst0:St T (.sl (.slice ao n ko) 63 4 n co::.obj bm (.map es clock)::.box bE Gm 27::M) _:=V;clear V;have V:=hst0;clear hst0;have cS:=fun {M} w (V:St T (.sl (.slice ao n ko) 63 4 n co::M) w)=>eQ w (.slice ao n ko) n (Srt.tagF Pn out 0) (by rw [← List.length_map (f:=fun t:Srt.Tg Pn=>t.x),Srt.tagF_map];exact HL.out.symm) co V (fe hCo) (by omega) (Lib.hid (Srt.tagF_stb kP AI out))
       repeat' ((apply ZZ 20);first|(apply O ();go_step)|(apply kc ();refine sc (cS _ V) ?_;clear V;rintro v w ⟨c9,ys,hR9,hpm,hso,V⟩)|fail)
       have hyl:ys.length=n:=by
        rw [hpm.length_eq,← List.length_map (f:=fun t:Srt.Tg Pn=>t.x),Srt.tagF_map];exact HL.out.symm
       have hys:ys.map (·.x)=Srt.sortR kP out:=Srt.sort_eq kP hpm (by rw [hyl];exact hso);have hR10:RL T c9 (Srt.sortR kP out):=by rw [← hys];exact Ys hR9
       have hln:n=(Srt.sortR kP out).length:=by rw [← hys,List.length_map,hyl]
       obtain ⟨T5,hT5,hst5,hP5⟩:=St.freeze (α:=Pn) V hR10 hln;clear V;have V:=hst5;clear hst5 hR9 hR10 hpm hso hys hyl hln;have hpx5:=Pt.mono hT5 hpx4;have hle5:=hle3.trans (hT.trans hT5);clear hpx4 hCo cS HPS;generalize Srt.sortR kP out=so at *;obtain ⟨m,hs,pp,⟨⟩⟩:=x;obtain ⟨a0,a1,a2,a3,a4,a5,a6,a7,a8,a9,d0,d1,d2,d3,d4,d5,rfl⟩:=QT hx16;simp only at hmh;refine Bm V kr ?_;clear V;intro w V;have hSS:=Cn V;apply nZ ();refine px 0 rfl (As X hpx5 Y Y rfl) ?_;rintro v0 hp0;refine pt 1 rfl (BW X hp0 Y Y rfl) ?_;refine px 2 rfl (As X hpx5 Y Y rfl) ?_;rintro v2 hp2;refine px 3 rfl (Aj X hp2 Y) ?_;rintro v3 ⟨hv3,hv31⟩;replace hv3:RSl T5 v3 hs:=hv3;refine pd 5 rfl ?_;refine po 4 rfl ?_;intro K G;refine sc (ZL w V v3 hs (hv3.mono hSS) (by omega)) ?_;clear V;rintro v4 w ⟨c4,hC4,hst0⟩;obtain ⟨S7,hS7,V,hX7⟩:=St.freeze (α:=Hd) hst0 hC4 rfl;clear hst0;obtain ⟨a7x,n7,k7,rfl⟩:=Z6 hX7;replace hSS:=hSS.trans hS7;refine pn G ?_;clear G K;refine pt 6 rfl (Dc (cs:=KB a0 a1 a2 a3 a4 a5 a6 a7 a8 a9 d0 d1 d2 d3 d4 d5 (.slice a7x n7 k7) (.slice ao n ko)) Y Y kr) ?_;refine po 7 rfl ?_;intro K G;(refine Ax V rfl _ N.h Y X rfl A3 A2 (by simp<;>omega) ?_);clear V;intro w V;(try replace V:=nH V);refine pn G ?_;clear G K;refine pd 8 rfl ?_;refine AK kr ?_;repeat' (first|(apply O ();go_step)|fail)
       apply vZ ();(try simp only [AV,List.drop_zero,List.drop_succ_cons,List.take_succ_cons,List.take_zero,AB,Ap]);have hRx:Z.R S7 (KB a0 a1 a2 a3 a4 a5 a6 a7 a8 a9 d0 d1 d2 d3 d4 d5 (.slice a7x n7 k7) (.slice ao n ko)) (((⟨[a0,a1,a2,a3,a4,a5,a6,a7,a8,a9,d0,d1,d2,d3,d4,d5]⟩:Dg),hs,so,()):Cz):=AG (BL hx16) (AG (cs:=[_]) ⟨_,rfl,hX7⟩ (AG (cs:=[_]) ⟨_,rfl,hP5.mono hS7⟩ CM));exact ⟨_,rfl,S7,_,hle5.trans hS7,by rw [← HN.out],by rw [← HN.out];exact hRx,V.drop.drop⟩
  ·have HN:Hid ((JC,15)=R):=Lib.hid (by rw [← HR.out];unfold Ep;rw [if_neg (fun h=>hh h.2)]);have hd2:decide (x.2.1=y.2.1)=false:=decide_eq_false hh;have cEq:=fun {M} w (V:St S2 M w) (va vb:Value) (ha:RSl S2 va x.2.1) (hb:RSl S2 vb y.2.1)=>QP w V va vb x.2.1 y.2.1 ha hb (by omega)
   rw [hd2] at cEq;clear HR hm hh hd2;repeat' (first|(apply tB ();refine Ag V (ET rfl rfl (BL hx16) (BL hy16) Y Y inferInstance hz1) ?_<;>apply nZ ())|apply sG ()|(apply O ();go_step)|(apply tL ();refine An V (Aj (y:=x.2.1) X Ak Y) ?_;rintro vha ⟨hvha,hvha1⟩<;>apply nZ ())|(apply tL ();refine An V (Aj (y:=y.2.1) X Ak Y) ?_;rintro vhb ⟨hvhb,hvhb1⟩<;>apply nZ ())|(apply kc ();refine sc (cEq _ V vha vhb hvha hvhb) ?_;clear V;rintro v w ⟨rfl,V⟩)|apply sP ()|(apply sJ ();intro v L)|(apply sT ();clear V;intro w V)|fail)
   apply jV ()
 ·have HN:Hid ((JC,15)=R):=Lib.hid (by rw [← HR.out];unfold Ep;rw [if_neg (fun h=>hm h.1)]);have hz1:decide (x.1=y.1)=false:=decide_eq_false hm;clear HR hm;repeat' (first|go_skip|(apply tB ();refine Ag V (ET rfl rfl (BL hx16) (BL hy16) Y Y inferInstance hz1) ?_<;>apply nZ ())|(apply O ();go_step)|apply sP ()|(apply sJ ();intro v L)|(apply sT ();clear V;intro w V)|fail)
  apply jV ()
end Go.Proofs.YtmmbidoldegemaaGreatDoor
