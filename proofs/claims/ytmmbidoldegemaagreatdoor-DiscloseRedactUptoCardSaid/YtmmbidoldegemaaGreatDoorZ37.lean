/- Part 38 of a proof; no conditions. -/
import Derived.Test.YtmmbidoldegemaaGreatDoorZ10
import Derived.Test.YtmmbidoldegemaaGreatDoorZ16
import Derived.Test.YtmmbidoldegemaaGreatDoorZ18
import Derived.Test.YtmmbidoldegemaaGreatDoorZ20
import Derived.Test.YtmmbidoldegemaaGreatDoorZ29
import Derived.Test.YtmmbidoldegemaaGreatDoorZ35
import Derived.Test.YtmmbidoldegemaaGreatDoorZ36
set_option linter.all false
set_option maxRecDepth 8000
set_option maxHeartbeats 8000000
namespace Go.Sl
open Go.RowKit Go.Proofs.Tryz
theorem uC {Gqq R:Prop} (_:Unit) (k:Kp R→Gqq:=by intro kq9;refine AF (j:=0) V X X SlIn.h rfl Y Y Y (by simp [Value.cells,Value.oneCell']) (by omega) (by omega) (by decide) ?_;exact (kq9.o:)) (h:R):Gqq:=k ⟨h⟩
theorem wt {Gqq R:Prop} (_:Unit) (k:Kp R→Gqq:=by intro kq9;refine Bj (α:=Fg) V X X SlIn.h hX3 Y Y Y (by show (Oqq.length+1) * _≤_;omega) (by show Oqq.length+1≤_;omega) (by decide) ?_;exact (kq9.o:)) (h:R):Gqq:=k ⟨h⟩
theorem vZ {Gqq R:Prop} (_:Unit) (k:Kp R→Gqq:=by intro kq9;refine Bc rfl (AZ V rfl _ N.h Y rfl rfl) (A8 rfl) ?_;exact (kq9.o:)) (h:R):Gqq:=k ⟨h⟩
theorem uU {Gqq R:Prop} (_:Unit) (k:Kp R→Gqq:=by intro kq9;refine Ag V (CB (x:=kP ps[i]) (cs:=Bi (kP ps[i])) X rfl Y Y kr Y Y Y hmap hRk false) ?_;exact (kq9.o:)) (h:R):Gqq:=k ⟨h⟩
theorem uT {Gqq R:Prop} (_:Unit) (k:Kp R→Gqq:=by intro kq9;refine Ay (vs:=[.int .i64 ps[i].2.2.1]) V Y Y rfl rfl (by simp [Value.cells]) rfl (by omega) (by omega) ?_;exact (kq9.o:)) (h:R):Gqq:=k ⟨h⟩
theorem vY {Gqq R:Prop} (_:Unit) (k:Kp R→Gqq:=by intro kq9;refine GM (x:=kP ps[i]) (cs:=Bi (kP ps[i])) V X rfl X Y Y kr Y Y hmap hRk hat ?_;exact (kq9.o:)) (h:R):Gqq:=k ⟨h⟩
theorem vX {Gqq R:Prop} (_:Unit) (k:Kp R→Gqq:=by intro kq9;refine IC (x:=kP ps[i]) (cells:=Bi) V X rfl X Ix Y Y kr Y Y hmap hRk hat (MY _) ?_;exact (kq9.o:)) (h:R):Gqq:=k ⟨h⟩
theorem vC {Gqq R:Prop} (_:Unit) (k:Kp R→Gqq:=by intro kq9;refine Bg G V (Ad.Le.refl _) (Suf.cons (Suf.refl _)) ?_;exact (kq9.o:)) (h:R):Gqq:=k ⟨h⟩
theorem wU {Gqq:Prop} (_:Unit) (k:Gqq:=by
 have e10:(p.2.1[k].1 == 10)=false:=by rw [hv];rfl
 have e12:(p.2.1[k].1 == 12)=false:=by rw [hv];rfl
 have e11:(p.2.1[k].1 == 11)=false:=by rw [hv];rfl
 have e14:(p.2.1[k].1 == 14)=false:=by rw [hv];rfl
 obtain ⟨z1,hz1⟩:∃ z,(t0 == 2)=z:=⟨_,rfl⟩
 obtain ⟨z2,hz2⟩:∃ z,(t1 == 2)=z:=⟨_,rfl⟩
 have HR:Hid (R=(z1 && z2)):=Lib.hid (by rw [← hR,← hz1,← hz2]);clear hR hv hl b0 b1 d0 d1 hnm hw;cases z1
 ·go_enter func68,ntmps68;repeat' ((apply ZZ 1);first|(apply O ();go_step)|(apply sB ();clear V;intro bx w V)|fail)
  refine wp_region_lit ?_;repeat' (first|(apply O ();go_step)|apply sX ()|(apply sD ();intro cl hcl)|(apply sI ();intro v L)|(apply sA ();clear V;intro bk w V)|fail)
  obtain ⟨so,rfl,ho,hI1,hI2,hI3⟩:=A5 hcl;clear hcl;rw [show Z.agg Nd=true from rfl];apply nW ();repeat' ((apply ZZ 12);first|apply sK ()|(apply O ();go_step)|apply sX ()|(apply sS ();clear V;intro w V)|fail)
  apply b6 ()
 ·go_enter func68,ntmps68;repeat' ((apply ZZ 1);first|(apply O ();go_step)|(apply sB ();clear V;intro bx w V)|fail)
  refine wp_region_lit ?_;repeat' (first|(apply O ();go_step)|apply sX ()|(apply sD ();intro cl hcl)|(apply sI ();intro v L)|(apply sA ();clear V;intro bk w V)|fail)
  obtain ⟨so,rfl,ho,hI1,hI2,hI3⟩:=A5 hcl;clear hcl;rw [show Z.agg Nd=true from rfl];apply nW ();repeat' ((apply ZZ 12);first|apply sK ()|(apply O ();go_step)|apply sX ()|(apply sS ();clear V;intro w V)|fail)
  apply b4 ()):Gqq:=k
theorem wT {Gqq:Prop} (_:Unit) (k:Gqq:=by
 have e11:(p.2.1[k].1 == 11)=false:=by rw [hv];rfl
 have e14:(p.2.1[k].1 == 14)=false:=by rw [hv];rfl
 obtain ⟨z1,hz1⟩:∃ z,(t0 == 2)=z:=⟨_,rfl⟩
 have HR:Hid (R=z1):=Lib.hid (by rw [← hR,← hz1]);clear hR hv hl b0 d0 hnm hw;go_enter func68,ntmps68;repeat' ((apply ZZ 1);first|(apply O ();go_step)|(apply sB ();clear V;intro bx w V)|fail)
 refine wp_region_lit ?_;repeat' (first|(apply O ();go_step)|apply sX ()|(apply sD ();intro cl hcl)|(apply sI ();intro v L)|(apply sA ();clear V;intro bk w V)|fail)
 obtain ⟨so,rfl,ho,hI1,hI2,hI3⟩:=A5 hcl;clear hcl;rw [show Z.agg Nd=true from rfl];apply nW ();repeat' ((apply ZZ 15);first|apply sK ()|(apply O ();go_step)|apply sX ()|(apply sS ();clear V;intro w V)|fail)
 refine AD V kr ?_;clear V;intro ops;apply nW ();refine td 0 rfl ?_;refine td 1 rfl ?_;refine td 2 rfl ?_;refine tx 3 rfl (Aq X Ak rfl Y Y Af Af) ?_;rintro v L;replace L:=iN L;refine tx 4 rfl (Am X Ak Y) ?_;rintro v ⟨rfl,hI⟩;(refine AQ 5 rfl kr rfl (fun S' M' w hS hM V=>cT0 w hS V) Y rfl ?_)<;>apply nW ()
 refine tq 6 rfl (Do rfl rfl hz1) ?_;refine td 7 rfl ?_;apply Xc ()):Gqq:=k
theorem wS {Gqq:Prop} (_:Unit) (k:Gqq:=by
 clear h cN
 cases z with
 | false =>
  have HF:=hno hq0;apply gZ ()
 | true =>
  have hq:=hq0;repeat' (first|apply sK ()|apply sG ()|(apply O ();go_step)|(apply kc ();refine sc (c1 _ V) ?_;clear V;rintro v w ⟨rfl,V⟩)|apply sX ()|apply sP ()|(apply sI ();intro v L)|(apply sS ();clear V;intro w V)|(apply sA ();clear V;intro bk w V)|fail)
  apply Xa ()):Gqq:=k
theorem wR {Gqq:Prop} (_:Unit) (k:Gqq:=by
 repeat' (first|(apply tB ();refine Ag V (Gg rfl rfl (by infer_instance)) ?_;simp only [Option.isNone_none,Option.isNone_some];apply nZ ())|(apply O ();go_step)|fail)
 apply aw ()):Gqq:=k
theorem wQ {Gqq:Prop} (_:Unit) (k:Gqq:=by
 refine td 24 rfl ?_;refine AJ kr ?_;clear ops;intro w V;repeat' (first|(apply O ();go_step)|fail)
 go_roundw
 case rel=>exact ⟨j+1,by omega,by go_num,V⟩
 case measure=>simp [intOf];omega):Gqq:=k
theorem wP {Gqq:Prop} (_:Unit) (k:Gqq:=by
 unfold enter;rw [hip];by_cases h12:(Az ns k).1=12
 ·rw [if_pos (by simpa using h12),if_pos h12,hpt h12]
 ·rw [if_neg (by simpa using h12),if_neg h12]):Gqq:=k
end Go.Sl
namespace Go.Proofs.YtmmbidoldegemaaGreatDoor
open Go.RowKit Go.Sl Go.Proofs.Tryz
def uS (en:List (Int×Int)) (took:List Int) (i:Nat):Bool:=!(took.getD i 0 != 0 && Ib (en.getD i (-1,0)).1 (en.getD i (-1,0)).2 took)
def uX (en:List (Int×Int)) (took:List Int):Bool:=Gs took en.length 0 && (List.range took.length).all (uS en took)
def uD (o t:List Int):Prop:=o.length=t.length∧∀ i,o.getD i 0 = -1∨o.getD i 0=t.getD i 0
theorem vy {q s o t} (h:uD o t) (hs:Ib q s o=true):Ib q s t=true:=by
 unfold Ib at hs ⊢;split at hs
 ·cases hs
 ·rename_i hc;rw [if_neg hc];simp only [Bool.and_eq_true,bne_iff_ne] at hs;rcases h.2 q.toNat with e|e
  ·exact absurd e hs.1
  ·rw [← e];simp only [Bool.and_eq_true,bne_iff_ne];exact hs
theorem vT {en t i} (h:uS en t i=true) (hs:Hq en t i=true):t.getD i 0=0:=by
 unfold uS at h;unfold Hq at hs;rw [hs] at h
 simpa using h
theorem vA {en t} (L:∀ i < t.length,uS en t i=true) {x} (h:uD x.1 t) (i):uD (GB en x i).1 t:=by
 unfold GB;split
 ·rename_i hc;simp only [Bool.and_eq_true,beq_iff_eq] at hc;refine ⟨by simpa using h.1,fun j=>?_⟩;simp only [Wv];split
  ·rename_i hij;subst hij;right;by_cases hl:i < t.length
   ·exact (vT (L i hl) (vy h hc.2)).symm
   ·simp [List.getD_eq_getElem?_getD,List.getElem?_eq_none (by omega:t.length≤i)]
  ·exact h.2 j
 ·exact h
theorem wu {l:List Int} {x} (h:x∈l):∃ i < l.length,l.getD i 0=x:=by
 obtain ⟨i,hi,rfl⟩:=List.mem_iff_getElem.1 h;exact ⟨i,hi,Ko hi⟩
theorem u0 {en t}:uX en t=true↔(t.length=en.length∧∀ x∈t,0≤x∧x≤3)∧∀ i < t.length,uS en t i=true:=by
 simp only [uX,Bool.and_eq_true,OC,List.all_eq_true,List.mem_range]
theorem vO {en took h} (L:uX en took=true) (hh:uD h took):∃ l,DS en h=some l∧uD l took∧NR h l:=by
 obtain ⟨⟨h1,h2⟩,h3⟩:=u0.1 L;have ha:uD (C4 en (h.length+1) h) took:=Js (p:=fun o=>uD o took) (fun x i=>fun hx=>vA h3 hx i) _ hh;have hk:NR h (C4 en (h.length+1) h):=Js (p:=fun o=>NR h o) (fun x i=>fun hx=>TY hx i) _ ⟨rfl,fun _ _=>rfl⟩;refine ⟨_,Uf.2 ⟨⟨hh.1.trans h1,fun x hx=>?_⟩,rfl,fun i hi hb=>?_⟩,ha,hk⟩
 ·obtain ⟨i,hi,rfl⟩:=wu hx;rcases hh.2 i with e|e
  ·omega
  ·have:=h2 _ (List.getElem_mem (h:=(by have:=hh.1;omega:i < took.length)));rw [e,Ko (by have:=hh.1;omega)];omega
 ·have hz:=vT (h3 i (by rw [ha.1] at hi;exact hi)) (vy ha hb.2);rcases ha.2 i with e|e
  ·omega
  ·omega
end Go.Proofs.YtmmbidoldegemaaGreatDoor
namespace Go.Sl
open Go.RowKit
def uL:List Value→List Tmp→List Value→List Value
 | l,t::ts,v::vs=>uL (l.set t v) ts vs
 | l,_,_=>l
theorem uR (l t ts v vs):uL l (t::ts) (v::vs)=uL (l.set t v) ts vs:=rfl
theorem uY (l vs):uL l [] vs=l:=by cases vs<;>rfl
theorem wg {P} {c:Code} {Q:Exit→Act→World→Prop} {l D w} (upd) (R:List Value→World→Prop) (h1:∀ Q':Exit→Act→World→Prop,(∀ vs w,R vs w→Q' .normal ⟨(uL l upd vs).toArray,D⟩ w)→c.wp P Q' ⟨l.toArray,D⟩ w) (h2:∀ vs w,R vs w→Q .normal ⟨(uL l upd vs).toArray,D⟩ w):c.wp P Q ⟨l.toArray,D⟩ w:=h1 Q h2
end Go.Sl
namespace Go.Proofs.YtmmbidoldegemaaGreatDoor
open Go.RowKit Go.Sl Go.Proofs.Tryz
theorem uA {α:Type} (l:List α) (i j a d):(l.set i a).getD j d=if i=j∧i < l.length then a else l.getD j d:=by
 rw [List.getD_eq_getElem?_getD,List.getD_eq_getElem?_getD,List.getElem?_set];by_cases h:i=j
 ·subst h;by_cases h2:i < l.length
  ·rw [if_pos rfl,if_pos h2,if_pos ⟨rfl,h2⟩];rfl
  ·rw [if_pos rfl,if_neg h2,if_neg (fun e=>h2 e.2),List.getElem?_eq_none (by omega)]
 ·rw [if_neg h,if_neg (fun e=>h e.1)]
def wd (rec:Int→Int×Int→List (Int×(Int×Int))) (pt:Bool) (n:Int) (ar:Int×Int):Nat→List Int→List (Int×(Int×Int))
 | _,[]=>[]
 | i,o::os=>rec o (GC pt n ar i)++wd rec pt n ar (i+1) os
def uW (ns:List Nd):Nat→Int→Int×Int→List (Int×(Int×Int))
 | 0,_,_=>[]
 | f+1,k,ar=>(if (Az ns k).1=12 then [((Az ns k).2.1,ar)] else [])++wd (uW ns f) (decide ((Az ns k).1=12)) (Az ns k).2.1 ar 0 (Az ns k).2.2.2.1
def vB (ns:List Nd) (f:Nat) (pt:Bool) (n:Int) (ar:Int×Int):Nat→List Int→Gr→Gr
 | _,[],s=>s
 | i,o::os,s=>vB ns f pt n ar (i+1) os (Ec ns f o (GC pt n ar i) s)
theorem vF (ns:List Nd) (f:Nat) (pt:Bool) (n:Int) (ar:Int×Int):∀ (os:List Int) (i:Nat) (s:Gr),(List.range os.length).foldl (fun t j=>Ec ns f (os.getD j 0) (GC pt n ar (i+j)) t) s=vB ns f pt n ar i os s
 | [],i,s=>rfl
 | o::os,i,s=>by
  rw [List.length_cons,List.range_succ_eq_map,List.foldl_cons,List.foldl_map,vB,← vF ns f pt n ar os (i+1)]
  have e:(fun t j=>Ec ns f ((o::os).getD (j.succ) 0) (GC pt n ar (i+j.succ)) t)=fun t j=>Ec ns f (os.getD j 0) (GC pt n ar (i+1+j)) t:=by
   funext t j
   rw [show i+j.succ=i+1+j from by omega];rfl
  rw [e];rfl
theorem wF (ns f pt n ar os s):La ns f pt n ar os s os.length=vB ns f pt n ar 0 os s:=by
 rw [← vF];unfold La
 congr 1
 funext t j
 rw [Nat.zero_add]
structure uQ (s s':Gr) (w w':Wk) (C:List (Int×(Int×Int))):Prop where
 seen:∀ j:Nat,s'.seen.getD j true=(s.seen.getD j true || decide (w.1≤(j:Int)∧(j:Int) < w'.1))
 found:∀ j:Nat,s'.found.getD j true=(s.found.getD j true || decide (w.2.1≤(j:Int)∧(j:Int) < w'.2.1))
 out:∀ j:Nat,((j:Int) < w.2.1∨w'.2.1≤(j:Int))→s'.out.getD j (-1,0)=s.out.getD j (-1,0)
 ctx:∀ x∈C,w.2.1≤x.1∧x.1 < w'.2.1∧s'.out.getD x.1.toNat (-1,0)=x.2
theorem uQ.refl (s w):uQ s s w w [] :=
 ⟨fun j=>by rw [decide_eq_false (by omega),Bool.or_false],fun j=>by rw [decide_eq_false (by omega),Bool.or_false],fun j _=>rfl,fun x hx=>by cases hx⟩
theorem wj {b} {x y z j:Int} (h1:x≤y) (h2:y≤z):(b || decide (x≤j∧j < y) || decide (y≤j∧j < z))=(b || decide (x≤j∧j < z)):=by
 rw [Bool.or_assoc]
 congr 1
 rw [← Bool.decide_or];apply decide_eq_decide.2;omega
theorem uQ.trans {s s1 s2 w w1 w2 C1q0 C2} (h:uQ s s1 w w1 C1q0) (h':uQ s1 s2 w1 w2 C2) (a1:w.1≤w1.1) (a2:w1.1≤w2.1) (b0:0≤w.2.1) (b1:w.2.1≤w1.2.1) (b2:w1.2.1≤w2.2.1):uQ s s2 w w2 (C1q0++C2):=by
 refine ⟨fun j=>?_,fun j=>?_,fun j hj=>?_,fun x hx=>?_⟩
 ·rw [h'.seen,h.seen,wj a1 a2]
 ·rw [h'.found,h.found,wj b1 b2]
 ·rw [h'.out j (by omega),h.out j (by omega)]
 ·rcases List.mem_append.1 hx with hx|hx
  ·obtain ⟨c1,c2,c3⟩:=h.ctx x hx;exact ⟨c1,by omega,by rw [h'.out _ (by omega),c3]⟩
  ·obtain ⟨c1,c2,c3⟩:=h'.ctx x hx;exact ⟨by omega,c2,c3⟩
section
variable {ns:List Nd} {np f:Nat}
abbrev wB (ns:List Nd) (np f:Nat):Prop:=∀ (k:Int) (ar:Int×Int) (w:Wk) (s:Gr),0≤k→k < ns.length→0≤w.1→0≤w.2.1→w.2.2=false→(El ns f k w).2.2=false→JF ns np s→(El ns f k w).2.1≤np →
 (∀ j:Nat,w.1≤j→(j:Int) < (El ns f k w).1→s.seen.getD j true=false)→(∀ j:Nat,w.2.1≤j→(j:Int) < (El ns f k w).2.1→s.found.getD j true=false)→uQ s (Ec ns f k ar s) w (El ns f k w) (uW ns f k ar)
theorem vE (H:wB ns np f) (pt:Bool) (n:Int) (ar:Int×Int) (k:Int) (hk:k≤ns.length):∀ (os cs:List Int) (i:Nat) (w:Wk) (s:Gr),0≤w.1→0≤w.2.1→w.2.2=false→(Ca (El ns f) ns k os cs w).1.2.2=false→(Ca (El ns f) ns k os cs w).2=false→cs.length=os.length →
  JF ns np s→(Ca (El ns f) ns k os cs w).1.2.1≤np→(∀ j:Nat,w.1≤j→(j:Int) < (Ca (El ns f) ns k os cs w).1.1→s.seen.getD j true=false)→(∀ j:Nat,w.2.1≤j→(j:Int) < (Ca (El ns f) ns k os cs w).1.2.1→s.found.getD j true=false) →
  uQ s (vB ns f pt n ar i os s) w (Ca (El ns f) ns k os cs w).1 (wd (uW ns f) pt n ar i os)
 | [],cs,i,w,s,w0,w1,hw,hr,hg,hl,hf,hn,hs,hd=>by
  have e:Ca (El ns f) ns k [] cs w=(w,false):=by cases cs<;>rfl
  rw [e];exact uQ.refl s w
 | o::os,[],i,w,s,w0,w1,hw,hr,hg,hl,hf,hn,hs,hd=>by simp at hl
 | o::os,c::cs,i,w,s,w0,w1,hw,hr,hg,hl,hf,hn,hs,hd=>by
  rw [Ca,if_neg (by rw [hw];decide)] at hr hg hn hs hd ⊢;by_cases hc:o < 0∨k≤o∨Ea (Az ns o).1≠c
  ·rw [if_pos hc] at hr;cases hr
  ·rw [if_neg hc] at hr hg hn hs hd ⊢
   cases hbo:(El ns f o w).2.2 with
   | true =>
    have e:Ca (El ns f) ns k os cs (El ns f o w)=(El ns f o w,false):=by
     apply ju ()
    rw [e,hbo] at hr;cases hr
   | false =>
    have b:=KG (ns:=ns) f o w (by omega) hw;have B:=NW (ns:=ns) (rec:=El ns f) (k:=k) (by omega) (fun o w ho _ hw=>KG f o w ho hw) os cs (El ns f o w) hbo;have n1:=b.n1;have p1:=b.p1;have n2:=B.n1;have p2:=B.p1;have v:=H o (GC pt n ar i) w s (by omega) (by omega) w0 w1 hw hbo hf (by omega) (fun j h1 h2=>hs j h1 (by omega)) (fun j h1 h2=>hd j h1 (by omega))
    have r:=vE H pt n ar k hk os cs (i+1) (El ns f o w) (Ec ns f o (GC pt n ar i) s) (by omega) (by omega) hbo hr hg (by simpa using hl) (J3 f _ _ _ hf) hn
     (fun j h1 h2=>by rw [v.seen,hs j (by omega) h2,decide_eq_false (by omega)];rfl) (fun j h1 h2=>by rw [v.found,hd j (by omega) h2,decide_eq_false (by omega)];rfl)
    exact v.trans r n1 n2 w1 p1 p2
theorem vu:∀ f,wB ns np f
 | 0,k,ar,w,s,hk,hkn,w0,w1,hw,hr,hf,hn,hs,hd=>by cases hr
 | f+1,k,ar,w,s,hk,hkn,w0,w1,hw,hr,hf,hn,hs,hd=>by
  rw [El] at hr hn hs hd ⊢;by_cases hc:Ea (Az ns k).1=0∨(EW (Az ns k).1 (Az ns k).2.2.2.1.length).length≠(Az ns k).2.2.2.1.length∨((Az ns k).1=12∧(Az ns k).2.1≠w.2.1)
  ·rw [if_pos hc] at hr;cases hr
  ·rw [if_neg hc] at hr hn hs hd ⊢;have hlen:(EW (Az ns k).1 (Az ns k).2.2.2.1.length).length=(Az ns k).2.2.2.1.length:=Decidable.byContradiction fun e=>hc (.inr (.inl e))
   have hpt:(Az ns k).1=12→(Az ns k).2.1=w.2.1:=fun e=>Decidable.byContradiction fun e2=>hc (.inr (.inr ⟨e,e2⟩))
   have B:=NW (ns:=ns) (rec:=El ns f) hk (fun o w ho hok hw=>KG f o w ho hw) (Az ns k).2.2.2.1 (EW (Az ns k).1 (Az ns k).2.2.2.1.length) (w.1,if (Az ns k).1=12 then w.2.1+1 else w.2.1,w.2.2) hw;have K:=vE (vu f) (decide ((Az ns k).1=12)) (Az ns k).2.1 ar k (by omega) (Az ns k).2.2.2.1 (EW (Az ns k).1 (Az ns k).2.2.2.1.length) 0 (w.1,if (Az ns k).1=12 then w.2.1+1 else w.2.1,w.2.2);have hgo:=(SW (nodes:=ns) (f:=f) (k:=k) (ar:=ar) (s:=s) (nd:=Az ns k))
   rw [uW];simp only at hr hn hs hd B K ⊢;generalize hW:Ca (El ns f) ns k (Az ns k).2.2.2.1 (EW (Az ns k).1 (Az ns k).2.2.2.1.length) (w.1,if (Az ns k).1=12 then w.2.1+1 else w.2.1,w.2.2)=r at *
   have hg:r.2=false:=by
    cases hg:r.2 with
    | false=>rfl
    | true =>
     rw [if_pos hg,(B.gave hg).1] at hr;cases hr
   have hgn:¬ (r.2=true):=by rw [hg];decide
   rw [if_neg hgn] at hr;simp only [if_neg hgn] at hn hs hd ⊢;simp only [Bool.or_eq_false_iff,bne_eq_false_iff_eq] at hr;obtain ⟨hr1,hr2⟩:=hr;have n1:=B.n1;have p1:=B.p1;simp only at n1 p1;have hsk:s.seen.getD k.toNat true=false:=hs k.toNat (by omega) (by omega)
   have hgoes:goes ns k s=some (Az ns k):=by
    unfold goes;rw [if_neg (by rw [hsk];intro h;rcases h with h|h;omega;cases h),Az,List.getD_eq_getElem?_getD,List.getElem?_eq_getElem (by omega)];rfl
   rw [hgo hgoes,wF]
   have hip:Ck (Az ns k) s=decide ((Az ns k).1=12):=by
    unfold Ck;by_cases h12:(Az ns k).1=12
    ·rw [if_pos h12] at p1;rw [decide_eq_true h12,hpt h12,decide_eq_true w1,hf.out,decide_eq_true (by omega),hd w.2.1.toNat (by omega) (by omega)];rfl
    ·rw [decide_eq_false h12];rfl
   rw [hip];have hse:(enter k.toNat (Az ns k) ar s).seen=s.seen.set k.toNat true:=by unfold enter;split<;>rfl
   have hfe:(enter k.toNat (Az ns k) ar s).found=if (Az ns k).1=12 then s.found.set w.2.1.toNat true else s.found:=by
    apply wP ()
   have hoe:(enter k.toNat (Az ns k) ar s).out=if (Az ns k).1=12 then s.out.set w.2.1.toNat ar else s.out:=by
    apply wP ()
   have hfe2:=hf.enter k.toNat (Az ns k) ar;have hf1:=hf.seen;have hf2:=hf.out;have hf3:=hf.found;generalize enter k.toNat (Az ns k) ar s=s1 at *
   have V:=K s1 w0 (by split<;>omega) hw hr1 hg hlen hfe2 hn
    (fun j h1 h2=>by rw [hse,uA,if_neg (by omega)];exact hs j h1 (by omega))
    (fun j h1 h2=>by
     rw [hfe];by_cases h12:(Az ns k).1=12
     ·rw [if_pos h12] at h1 ⊢;rw [uA,if_neg (by omega)];exact hd j (by omega) h2
     ·rw [if_neg h12] at h1 ⊢;exact hd j h1 h2)
   refine ⟨fun j=>?_,fun j=>?_,fun j hj=>?_,fun x hx=>?_⟩
   ·rw [V.seen,hse,uA];simp only;by_cases hj:k.toNat=j∧k.toNat < s.seen.length
    ·rw [if_pos hj,decide_eq_true (p:=w.1≤(j:Int)∧(j:Int) < r.1.1+1) (by omega),Bool.or_true,Bool.true_or]
    ·rw [if_neg hj]
     congr 1
     apply decide_eq_decide.2;omega
   ·rw [V.found,hfe];simp only;by_cases h12:(Az ns k).1=12
    ·rw [if_pos h12] at p1;simp only [if_pos h12];rw [uA];by_cases hj:w.2.1.toNat=j∧w.2.1.toNat < s.found.length
     ·rw [if_pos hj,decide_eq_true (p:=w.2.1≤(j:Int)∧(j:Int) < r.1.2.1) (by omega),Bool.or_true,Bool.true_or]
     ·rw [if_neg hj]
      congr 1
      apply decide_eq_decide.2;omega
    ·simp only [if_neg h12]
   ·simp only at hj;rw [V.out j (by simp only;split<;>omega),hoe];by_cases h12:(Az ns k).1=12
    ·rw [if_pos h12] at p1;rw [if_pos h12,uA,if_neg (by omega)]
    ·rw [if_neg h12]
   ·by_cases h12:(Az ns k).1=12
    ·rw [if_pos h12] at p1;simp only [if_pos h12] at V hx ⊢;rcases List.mem_append.1 hx with hx|hx
     ·obtain rfl:=List.mem_singleton.1 hx;have hq:=hpt h12;refine ⟨by simp only;omega,by simp only;omega,?_⟩;simp only;rw [V.out _ (by simp only;omega),hoe,if_pos h12,hq,uA,if_pos ⟨rfl,by omega⟩]
     ·obtain ⟨c1,c2,c3⟩:=V.ctx x hx;simp only at c1 c2;exact ⟨by omega,c2,c3⟩
    ·simp only [if_neg h12] at V hx ⊢;exact V.ctx x (by simpa using hx)
theorem wH {p} (hw:Cl p) (hp8:p.2.2.2.1≤8):∀ x∈uW p.2.1 (p.2.1.length+1) p.2.2.1 (-1,0),(BM p.2.1 p.2.2.1 p.2.2.2.1).getD x.1.toNat (-1,0)=x.2∧0≤x.1∧x.1 < p.2.2.2.1:=by
 have n0:=hw.n0;have e:CL p.2.2.2.1=(max p.2.2.2.1 0).toNat:=by unfold CL;omega
 have b:=KG (ns:=p.2.1) (p.2.1.length+1) ((p.2.1.length:Int) - 1) (0,0,false) (by omega) rfl;have p1:=b.p1
 have V:=vu (ns:=p.2.1) (np:=CL p.2.2.2.1) (p.2.1.length+1) ((p.2.1.length:Int) - 1) (-1,0) (0,0,false) ⟨List.replicate p.2.1.length false,List.replicate (CL p.2.2.2.1) (-1,0),List.replicate (CL p.2.2.2.1) false⟩
  (by omega) (by omega) (by simp) (by simp) rfl (by rw [hw.wk]) ⟨by simp,by simp,by simp⟩ (by rw [hw.wk] at p1 ⊢;simp only at p1 ⊢;omega)
  (fun j h1 h2=>by
   rw [hw.wk] at h2;simp only at h2;rw [List.getD_eq_getElem?_getD,List.getElem?_replicate,if_pos (by omega)];rfl)
  (fun j h1 h2=>by
   rw [hw.wk] at h2;simp only at h2;rw [List.getD_eq_getElem?_getD,List.getElem?_replicate,if_pos (by omega)];rfl)
 rw [hw.wk,← hw.rt] at V;intro x hx;obtain ⟨c1,c2,c3⟩:=V.ctx x hx;exact ⟨c3,c1,c2⟩
end
theorem Ch {p} (hw:Cl p) {k} (hk:k < p.2.1.length) {i} (hi:i < (p.2.1[k]).2.2.2.1.length):∃ o:Nat,o < k∧(p.2.1[k]).2.2.2.1[i]=(o:Int)∧AU (p.2.1[k]) i=(o:Int):=by
 have e:=Be hk;have Nqq:=hw.nd (k:Int) (by omega) (by omega);obtain ⟨c1,c2,_⟩:=Nqq.ofs i (by rw [e];exact hi);rw [e] at c1 c2
 have e0:AU (p.2.1[k]) i=(p.2.1[k]).2.2.2.1[i]:=by
  unfold AU;rw [List.getD_eq_getElem?_getD,List.getElem?_eq_getElem hi];rfl
 exact ⟨(AU (p.2.1[k]) i).toNat,by omega,by omega,by omega⟩
theorem LR {p} (hw:Cl p) {k} (hk:k < p.2.1.length):(EW (p.2.1[k]).1 (p.2.1[k]).2.2.2.1.length).length=(p.2.1[k]).2.2.2.1.length:=by
 have e:=Be hk;have Nqq:=(hw.nd (k:Int) (by omega) (by omega)).len;rwa [e] at Nqq
theorem IY {p} (hw:Cl p) {k} (hk:k < p.2.1.length) (h:3≤(p.2.1[k]).1∧(p.2.1[k]).1≤9):(p.2.1[k]).2.2.2.1.length=2:=by
 have:=LR hw hk;unfold EW at this;rw [if_pos h] at this;exact this.symm
theorem NN {p} (hw:Cl p) {k} (hk:k < p.2.1.length) (h:(p.2.1[k]).1=10∨(p.2.1[k]).1=11∨(p.2.1[k]).1=14):(p.2.1[k]).2.2.2.1.length=1:=by
 have:=LR hw hk;unfold EW at this;rw [if_neg (by omega),if_pos h] at this;exact this.symm
theorem NO {p} (hw:Cl p) {k} (hk:k < p.2.1.length) (h:(p.2.1[k]).1=12):2≤(p.2.1[k]).2.2.2.1.length∧(p.2.1[k]).2.2.2.1.length≤3:=by
 have:=LR hw hk;unfold EW at this;rw [if_neg (by omega),if_neg (by omega),if_pos h] at this;split at this
 ·omega
 ·have:2=(p.2.1[k]).2.2.2.1.length:=this;omega
theorem Pa (s:Cv):∀ (l:List Nd) (i:Int) (j:Nat),j < l.length→(l.getD j K4).1=11→(l.getD j K4).2.2.1=s→i≤EL s l i∧EL s l i≤i+j
 | [],i,j,hj,_,_=>absurd hj (by simp)
 | x::r,i,j,hj,h1,h2=>by
  rw [EL];by_cases h:x.1=11∧x.2.2.1=s
  ·rw [if_pos h];omega
  ·rw [if_neg h]
   cases j with
   | zero=>exact absurd ⟨h1,h2⟩ h
   | succ j =>
    have:=Pa s r (i+1) j (by simpa using hj) h1 h2;omega
theorem fW {p} (hw:Cl p) {k} (hk:k < p.2.1.length) (hv:(p.2.1[k]).1=11):
  ∃ q o:Nat,∃ hq:q < p.2.1.length,∃ h0:0 < (p.2.1[q]).2.2.2.1.length,B0 p (p.2.1[k]).2.2.1=q∧q≤k∧o < q∧(p.2.1[q]).2.2.2.1[0]=(o:Int):=by
 have ek:p.2.1.getD k K4=p.2.1[k]:=by rw [List.getD_eq_getElem?_getD,List.getElem?_eq_getElem hk];rfl
 have a:=Pa (p.2.1[k]).2.2.1 p.2.1 0 k hk (by rw [ek];exact hv) (by rw [ek]);obtain ⟨q,b1,b2,b3,b4⟩:=NC (p:=p) (s:=(p.2.1[k]).2.2.1) a.1;have e:=Be b1;rw [e] at b3;have hl:=NN hw b1 (.inr (.inl b3));have h0:0 < (p.2.1[q]).2.2.2.1.length:=by omega
 obtain ⟨o,c1,c2,c3⟩:=Ch hw b1 h0;have a2:B0 p (p.2.1[k]).2.2.1≤0+(k:Int):=a.2;exact ⟨q,o,b1,h0,b2,by omega,c1,c2⟩
section
variable {p:Pg} {f:Nat} {x:Nd}
theorem Td (h:3≤x.1∧x.1≤6):A1 p f x=((A7 p f (AU x 0) == 1) && (A7 p f (AU x 1) == 1)):=by
 unfold A1;rw [if_pos h,Bool.eq_iff_iff];simp
theorem kW (h:x.1=7):A1 p f x=(A7 p f (AU x 0) == A7 p f (AU x 1)):=by
 unfold A1;rw [if_neg (by omega),if_pos h,Bool.eq_iff_iff];simp
theorem eJ (h:x.1=8∨x.1=9):A1 p f x=((A7 p f (AU x 0) == 2) && (A7 p f (AU x 1) == 2)):=by
 unfold A1;rw [if_neg (by omega),if_neg (by omega),if_pos h,Bool.eq_iff_iff];simp
theorem eI (h:x.1=10∨x.1=12):A1 p f x=(A7 p f (AU x 0) == 2):=by
 unfold A1;rw [if_neg (by omega),if_neg (by omega),if_neg (by omega),if_pos h,Bool.eq_iff_iff];simp
theorem kT (h:x.1=11):A1 p f x=(A7 p f (AU x 0) == A7 p f (AU (Az p.2.1 (B0 p x.2.2.1)) 0)):=by
 unfold A1;rw [if_neg (by omega),if_neg (by omega),if_neg (by omega),if_neg (by omega),if_pos h,Bool.eq_iff_iff];simp
theorem kR (h:x.1=14):A1 p f x=(A7 p f (AU x 0) == 1):=by
 unfold A1;rw [if_neg (by omega),if_neg (by omega),if_neg (by omega),if_neg (by omega),if_neg (by omega),if_pos h,Bool.eq_iff_iff];simp
theorem kQ (h:x.1 < 3∨15≤x.1∨x.1=13):A1 p f x=true:=by
 unfold A1;rw [if_neg (by omega),if_neg (by omega),if_neg (by omega),if_neg (by omega),if_neg (by omega),if_neg (by omega)]
end
section
variable {S:Ad} {M:List J} {w:World} {si sn:Sv} {p:Pg} {f k:Nat}
theorem XE (V:St S M w) (L:Cm S si sn p) (hw:Cl p) (hnm:H6 p) (hk:k < p.2.1.length) (hf:p.2.1.length+1≤f) (hv:p.2.1[k].1=3) :
  Ac prog 68 [Bo si sn p,.int .i64 (k:Int)] w fun v w'=>v=.bool (A1 p f (p.2.1[k]))∧St S M w':=by
 unfold Ac;obtain ⟨R,hR⟩:∃ R,A1 p f (p.2.1[k])=R:=⟨_,rfl⟩
 rw [hR];have hn:=L.n;have hi:=L.i;have hln:=L.ln;have hl:=IY hw hk (by omega);rw [Td (by omega)] at hR;have hl0:0 < (p.2.1[k]).2.2.2.1.length:=by omega
 obtain ⟨o0,a0,b0,d0⟩:=Ch hw hk hl0;have cT0:∀ {S' M} w (hS:S.Le S') (V:St S' M w),Ac prog 111 [Bo si sn p,.int .i64 ((p.2.1[k]).2.2.2.1[0])] w fun v w'=>v=.int .i64 (A7 p f (AU (p.2.1[k]) 0))∧St S' M w':=fun w hS V=>by rw [b0,d0];exact CN p f w si sn o0 V (L.mono hS) hw hnm (by omega) (by omega)
 generalize A7 p f (AU (p.2.1[k]) 0)=t0 at *;have hl1:1 < (p.2.1[k]).2.2.2.1.length:=by omega
 obtain ⟨o1,a1,b1,d1⟩:=Ch hw hk hl1;have cT1:∀ {S' M} w (hS:S.Le S') (V:St S' M w),Ac prog 111 [Bo si sn p,.int .i64 ((p.2.1[k]).2.2.2.1[1])] w fun v w'=>v=.int .i64 (A7 p f (AU (p.2.1[k]) 1))∧St S' M w':=fun w hS V=>by rw [b1,d1];exact CN p f w si sn o1 V (L.mono hS) hw hnm (by omega) (by omega)
 generalize A7 p f (AU (p.2.1[k]) 1)=t1 at *;have e3:(p.2.1[k].1 == 3)=true:=by rw [hv];rfl
 have e4:(p.2.1[k].1 == 4)=false:=by rw [hv];rfl
 have e5:(p.2.1[k].1 == 5)=false:=by rw [hv];rfl
 have e6:(p.2.1[k].1 == 6)=false:=by rw [hv];rfl
 apply Go.Sl.b1 ()
theorem XD (V:St S M w) (L:Cm S si sn p) (hw:Cl p) (hnm:H6 p) (hk:k < p.2.1.length) (hf:p.2.1.length+1≤f) (hv:p.2.1[k].1=4) :
  Ac prog 68 [Bo si sn p,.int .i64 (k:Int)] w fun v w'=>v=.bool (A1 p f (p.2.1[k]))∧St S M w':=by
 unfold Ac;obtain ⟨R,hR⟩:∃ R,A1 p f (p.2.1[k])=R:=⟨_,rfl⟩
 rw [hR];have hn:=L.n;have hi:=L.i;have hln:=L.ln;have hl:=IY hw hk (by omega);rw [Td (by omega)] at hR;have hl0:0 < (p.2.1[k]).2.2.2.1.length:=by omega
 obtain ⟨o0,a0,b0,d0⟩:=Ch hw hk hl0;have cT0:∀ {S' M} w (hS:S.Le S') (V:St S' M w),Ac prog 111 [Bo si sn p,.int .i64 ((p.2.1[k]).2.2.2.1[0])] w fun v w'=>v=.int .i64 (A7 p f (AU (p.2.1[k]) 0))∧St S' M w':=fun w hS V=>by rw [b0,d0];exact CN p f w si sn o0 V (L.mono hS) hw hnm (by omega) (by omega)
 generalize A7 p f (AU (p.2.1[k]) 0)=t0 at *;have hl1:1 < (p.2.1[k]).2.2.2.1.length:=by omega
 obtain ⟨o1,a1,b1,d1⟩:=Ch hw hk hl1;have cT1:∀ {S' M} w (hS:S.Le S') (V:St S' M w),Ac prog 111 [Bo si sn p,.int .i64 ((p.2.1[k]).2.2.2.1[1])] w fun v w'=>v=.int .i64 (A7 p f (AU (p.2.1[k]) 1))∧St S' M w':=fun w hS V=>by rw [b1,d1];exact CN p f w si sn o1 V (L.mono hS) hw hnm (by omega) (by omega)
 generalize A7 p f (AU (p.2.1[k]) 1)=t1 at *;have e3:(p.2.1[k].1 == 3)=false:=by rw [hv];rfl
 have e4:(p.2.1[k].1 == 4)=true:=by rw [hv];rfl
 have e5:(p.2.1[k].1 == 5)=false:=by rw [hv];rfl
 have e6:(p.2.1[k].1 == 6)=false:=by rw [hv];rfl
 apply Go.Sl.b1 ()
theorem XC (V:St S M w) (L:Cm S si sn p) (hw:Cl p) (hnm:H6 p) (hk:k < p.2.1.length) (hf:p.2.1.length+1≤f) (hv:p.2.1[k].1=5) :
  Ac prog 68 [Bo si sn p,.int .i64 (k:Int)] w fun v w'=>v=.bool (A1 p f (p.2.1[k]))∧St S M w':=by
 unfold Ac;obtain ⟨R,hR⟩:∃ R,A1 p f (p.2.1[k])=R:=⟨_,rfl⟩
 rw [hR];have hn:=L.n;have hi:=L.i;have hln:=L.ln;have hl:=IY hw hk (by omega);rw [Td (by omega)] at hR;have hl0:0 < (p.2.1[k]).2.2.2.1.length:=by omega
 obtain ⟨o0,a0,b0,d0⟩:=Ch hw hk hl0;have cT0:∀ {S' M} w (hS:S.Le S') (V:St S' M w),Ac prog 111 [Bo si sn p,.int .i64 ((p.2.1[k]).2.2.2.1[0])] w fun v w'=>v=.int .i64 (A7 p f (AU (p.2.1[k]) 0))∧St S' M w':=fun w hS V=>by rw [b0,d0];exact CN p f w si sn o0 V (L.mono hS) hw hnm (by omega) (by omega)
 generalize A7 p f (AU (p.2.1[k]) 0)=t0 at *;have hl1:1 < (p.2.1[k]).2.2.2.1.length:=by omega
 obtain ⟨o1,a1,b1,d1⟩:=Ch hw hk hl1;have cT1:∀ {S' M} w (hS:S.Le S') (V:St S' M w),Ac prog 111 [Bo si sn p,.int .i64 ((p.2.1[k]).2.2.2.1[1])] w fun v w'=>v=.int .i64 (A7 p f (AU (p.2.1[k]) 1))∧St S' M w':=fun w hS V=>by rw [b1,d1];exact CN p f w si sn o1 V (L.mono hS) hw hnm (by omega) (by omega)
 generalize A7 p f (AU (p.2.1[k]) 1)=t1 at *;have e3:(p.2.1[k].1 == 3)=false:=by rw [hv];rfl
 have e4:(p.2.1[k].1 == 4)=false:=by rw [hv];rfl
 have e5:(p.2.1[k].1 == 5)=true:=by rw [hv];rfl
 have e6:(p.2.1[k].1 == 6)=false:=by rw [hv];rfl
 apply Go.Sl.b1 ()
theorem XB (V:St S M w) (L:Cm S si sn p) (hw:Cl p) (hnm:H6 p) (hk:k < p.2.1.length) (hf:p.2.1.length+1≤f) (hv:p.2.1[k].1=6) :
  Ac prog 68 [Bo si sn p,.int .i64 (k:Int)] w fun v w'=>v=.bool (A1 p f (p.2.1[k]))∧St S M w':=by
 unfold Ac;obtain ⟨R,hR⟩:∃ R,A1 p f (p.2.1[k])=R:=⟨_,rfl⟩
 rw [hR];have hn:=L.n;have hi:=L.i;have hln:=L.ln;have hl:=IY hw hk (by omega);rw [Td (by omega)] at hR;have hl0:0 < (p.2.1[k]).2.2.2.1.length:=by omega
 obtain ⟨o0,a0,b0,d0⟩:=Ch hw hk hl0;have cT0:∀ {S' M} w (hS:S.Le S') (V:St S' M w),Ac prog 111 [Bo si sn p,.int .i64 ((p.2.1[k]).2.2.2.1[0])] w fun v w'=>v=.int .i64 (A7 p f (AU (p.2.1[k]) 0))∧St S' M w':=fun w hS V=>by rw [b0,d0];exact CN p f w si sn o0 V (L.mono hS) hw hnm (by omega) (by omega)
 generalize A7 p f (AU (p.2.1[k]) 0)=t0 at *;have hl1:1 < (p.2.1[k]).2.2.2.1.length:=by omega
 obtain ⟨o1,a1,b1,d1⟩:=Ch hw hk hl1;have cT1:∀ {S' M} w (hS:S.Le S') (V:St S' M w),Ac prog 111 [Bo si sn p,.int .i64 ((p.2.1[k]).2.2.2.1[1])] w fun v w'=>v=.int .i64 (A7 p f (AU (p.2.1[k]) 1))∧St S' M w':=fun w hS V=>by rw [b1,d1];exact CN p f w si sn o1 V (L.mono hS) hw hnm (by omega) (by omega)
 generalize A7 p f (AU (p.2.1[k]) 1)=t1 at *;have e3:(p.2.1[k].1 == 3)=false:=by rw [hv];rfl
 have e4:(p.2.1[k].1 == 4)=false:=by rw [hv];rfl
 have e5:(p.2.1[k].1 == 5)=false:=by rw [hv];rfl
 have e6:(p.2.1[k].1 == 6)=true:=by rw [hv];rfl
 apply Go.Sl.b1 ()
theorem Xz (V:St S M w) (L:Cm S si sn p) (hw:Cl p) (hnm:H6 p) (hk:k < p.2.1.length) (hf:p.2.1.length+1≤f) (hv:p.2.1[k].1=8) :
  Ac prog 68 [Bo si sn p,.int .i64 (k:Int)] w fun v w'=>v=.bool (A1 p f (p.2.1[k]))∧St S M w':=by
 unfold Ac;obtain ⟨R,hR⟩:∃ R,A1 p f (p.2.1[k])=R:=⟨_,rfl⟩
 rw [hR];have hn:=L.n;have hi:=L.i;have hln:=L.ln;have hl:=IY hw hk (by omega);rw [eJ (by omega)] at hR;have hl0:0 < (p.2.1[k]).2.2.2.1.length:=by omega
 obtain ⟨o0,a0,b0,d0⟩:=Ch hw hk hl0;have cT0:∀ {S' M} w (hS:S.Le S') (V:St S' M w),Ac prog 111 [Bo si sn p,.int .i64 ((p.2.1[k]).2.2.2.1[0])] w fun v w'=>v=.int .i64 (A7 p f (AU (p.2.1[k]) 0))∧St S' M w':=fun w hS V=>by rw [b0,d0];exact CN p f w si sn o0 V (L.mono hS) hw hnm (by omega) (by omega)
 generalize A7 p f (AU (p.2.1[k]) 0)=t0 at *;have hl1:1 < (p.2.1[k]).2.2.2.1.length:=by omega
 obtain ⟨o1,a1,b1,d1⟩:=Ch hw hk hl1;have cT1:∀ {S' M} w (hS:S.Le S') (V:St S' M w),Ac prog 111 [Bo si sn p,.int .i64 ((p.2.1[k]).2.2.2.1[1])] w fun v w'=>v=.int .i64 (A7 p f (AU (p.2.1[k]) 1))∧St S' M w':=fun w hS V=>by rw [b1,d1];exact CN p f w si sn o1 V (L.mono hS) hw hnm (by omega) (by omega)
 generalize A7 p f (AU (p.2.1[k]) 1)=t1 at *;have e3:(p.2.1[k].1 == 3)=false:=by rw [hv];rfl
 have e4:(p.2.1[k].1 == 4)=false:=by rw [hv];rfl
 have e5:(p.2.1[k].1 == 5)=false:=by rw [hv];rfl
 have e6:(p.2.1[k].1 == 6)=false:=by rw [hv];rfl
 have e7:(p.2.1[k].1 == 7)=false:=by rw [hv];rfl
 have e8:(p.2.1[k].1 == 8)=true:=by rw [hv];rfl
 have e9:(p.2.1[k].1 == 9)=false:=by rw [hv];rfl
 apply wU ()
theorem Xy (V:St S M w) (L:Cm S si sn p) (hw:Cl p) (hnm:H6 p) (hk:k < p.2.1.length) (hf:p.2.1.length+1≤f) (hv:p.2.1[k].1=9) :
  Ac prog 68 [Bo si sn p,.int .i64 (k:Int)] w fun v w'=>v=.bool (A1 p f (p.2.1[k]))∧St S M w':=by
 unfold Ac;obtain ⟨R,hR⟩:∃ R,A1 p f (p.2.1[k])=R:=⟨_,rfl⟩
 rw [hR];have hn:=L.n;have hi:=L.i;have hln:=L.ln;have hl:=IY hw hk (by omega);rw [eJ (by omega)] at hR;have hl0:0 < (p.2.1[k]).2.2.2.1.length:=by omega
 obtain ⟨o0,a0,b0,d0⟩:=Ch hw hk hl0;have cT0:∀ {S' M} w (hS:S.Le S') (V:St S' M w),Ac prog 111 [Bo si sn p,.int .i64 ((p.2.1[k]).2.2.2.1[0])] w fun v w'=>v=.int .i64 (A7 p f (AU (p.2.1[k]) 0))∧St S' M w':=fun w hS V=>by rw [b0,d0];exact CN p f w si sn o0 V (L.mono hS) hw hnm (by omega) (by omega)
 generalize A7 p f (AU (p.2.1[k]) 0)=t0 at *;have hl1:1 < (p.2.1[k]).2.2.2.1.length:=by omega
 obtain ⟨o1,a1,b1,d1⟩:=Ch hw hk hl1;have cT1:∀ {S' M} w (hS:S.Le S') (V:St S' M w),Ac prog 111 [Bo si sn p,.int .i64 ((p.2.1[k]).2.2.2.1[1])] w fun v w'=>v=.int .i64 (A7 p f (AU (p.2.1[k]) 1))∧St S' M w':=fun w hS V=>by rw [b1,d1];exact CN p f w si sn o1 V (L.mono hS) hw hnm (by omega) (by omega)
 generalize A7 p f (AU (p.2.1[k]) 1)=t1 at *;have e3:(p.2.1[k].1 == 3)=false:=by rw [hv];rfl
 have e4:(p.2.1[k].1 == 4)=false:=by rw [hv];rfl
 have e5:(p.2.1[k].1 == 5)=false:=by rw [hv];rfl
 have e6:(p.2.1[k].1 == 6)=false:=by rw [hv];rfl
 have e7:(p.2.1[k].1 == 7)=false:=by rw [hv];rfl
 have e8:(p.2.1[k].1 == 8)=false:=by rw [hv];rfl
 have e9:(p.2.1[k].1 == 9)=true:=by rw [hv];rfl
 apply wU ()
theorem XA (V:St S M w) (L:Cm S si sn p) (hw:Cl p) (hnm:H6 p) (hk:k < p.2.1.length) (hf:p.2.1.length+1≤f) (hv:p.2.1[k].1=7) :
  Ac prog 68 [Bo si sn p,.int .i64 (k:Int)] w fun v w'=>v=.bool (A1 p f (p.2.1[k]))∧St S M w':=by
 unfold Ac;obtain ⟨R,hR⟩:∃ R,A1 p f (p.2.1[k])=R:=⟨_,rfl⟩
 rw [hR];have hn:=L.n;have hi:=L.i;have hln:=L.ln;have hl:=IY hw hk (by omega);rw [kW (by omega)] at hR;have hl0:0 < (p.2.1[k]).2.2.2.1.length:=by omega
 obtain ⟨o0,a0,b0,d0⟩:=Ch hw hk hl0;have cT0:∀ {S' M} w (hS:S.Le S') (V:St S' M w),Ac prog 111 [Bo si sn p,.int .i64 ((p.2.1[k]).2.2.2.1[0])] w fun v w'=>v=.int .i64 (A7 p f (AU (p.2.1[k]) 0))∧St S' M w':=fun w hS V=>by rw [b0,d0];exact CN p f w si sn o0 V (L.mono hS) hw hnm (by omega) (by omega)
 generalize A7 p f (AU (p.2.1[k]) 0)=t0 at *;have hl1:1 < (p.2.1[k]).2.2.2.1.length:=by omega
 obtain ⟨o1,a1,b1,d1⟩:=Ch hw hk hl1;have cT1:∀ {S' M} w (hS:S.Le S') (V:St S' M w),Ac prog 111 [Bo si sn p,.int .i64 ((p.2.1[k]).2.2.2.1[1])] w fun v w'=>v=.int .i64 (A7 p f (AU (p.2.1[k]) 1))∧St S' M w':=fun w hS V=>by rw [b1,d1];exact CN p f w si sn o1 V (L.mono hS) hw hnm (by omega) (by omega)
 generalize A7 p f (AU (p.2.1[k]) 1)=t1 at *;have e3:(p.2.1[k].1 == 3)=false:=by rw [hv];rfl
 have e4:(p.2.1[k].1 == 4)=false:=by rw [hv];rfl
 have e5:(p.2.1[k].1 == 5)=false:=by rw [hv];rfl
 have e6:(p.2.1[k].1 == 6)=false:=by rw [hv];rfl
 have e7:(p.2.1[k].1 == 7)=true:=by rw [hv];rfl
 have e8:(p.2.1[k].1 == 8)=false:=by rw [hv];rfl
 have e9:(p.2.1[k].1 == 9)=false:=by rw [hv];rfl
 have e10:(p.2.1[k].1 == 10)=false:=by rw [hv];rfl
 have e12:(p.2.1[k].1 == 12)=false:=by rw [hv];rfl
 have e11:(p.2.1[k].1 == 11)=false:=by rw [hv];rfl
 have e14:(p.2.1[k].1 == 14)=false:=by rw [hv];rfl
 obtain ⟨z1,hz1⟩:∃ z,(t0 == t1)=z:=⟨_,rfl⟩
 have HR:Hid (R=z1):=Lib.hid (by rw [← hR,← hz1]);clear hR hv hl b0 b1 d0 d1 hnm hw;go_enter func68,ntmps68;repeat' ((apply ZZ 1);first|(apply O ();go_step)|(apply sB ();clear V;intro bx w V)|fail)
 refine wp_region_lit ?_;repeat' (first|(apply O ();go_step)|apply sX ()|(apply sD ();intro cl hcl)|(apply sI ();intro v L)|(apply sA ();clear V;intro bk w V)|fail)
 obtain ⟨so,rfl,ho,hI1,hI2,hI3⟩:=A5 hcl;clear hcl;rw [show Z.agg Nd=true from rfl];apply nW ();repeat' ((apply ZZ 9);first|apply sK ()|(apply O ();go_step)|apply sX ()|(apply sS ();clear V;intro w V)|fail)
 refine AD V kr ?_;clear V;intro ops;apply nW ();refine td 0 rfl ?_;refine td 1 rfl ?_;refine td 2 rfl ?_;refine tx 3 rfl (Aq X Ak rfl Y Y Af Af) ?_;rintro v L;replace L:=iN L;refine tx 4 rfl (Am X Ak Y) ?_;rintro v ⟨rfl,hI⟩;(refine AQ 5 rfl kr rfl (fun S' M' w hS hM V=>cT0 w hS V) Y rfl ?_)<;>apply nW ()
 refine td 6 rfl ?_;refine td 7 rfl ?_;refine td 8 rfl ?_;refine tx 9 rfl (Aq X Ak rfl Y Y Af Af) ?_;rintro v L;replace L:=iN L;refine tx 10 rfl (Am X Ak Y) ?_;rintro v ⟨rfl,hI⟩;(refine AQ 11 rfl kr rfl (fun S' M' w hS hM V=>cT1 w hS V) Y rfl ?_)<;>apply nW ()
 refine tq 12 rfl (Do rfl rfl hz1) ?_;refine td 13 rfl ?_;apply Xc ()
theorem UW (V:St S M w) (L:Cm S si sn p) (hw:Cl p) (hnm:H6 p) (hk:k < p.2.1.length) (hf:p.2.1.length+1≤f) (hv:p.2.1[k].1=10) :
  Ac prog 68 [Bo si sn p,.int .i64 (k:Int)] w fun v w'=>v=.bool (A1 p f (p.2.1[k]))∧St S M w':=by
 unfold Ac;obtain ⟨R,hR⟩:∃ R,A1 p f (p.2.1[k])=R:=⟨_,rfl⟩
 rw [hR];have hn:=L.n;have hi:=L.i;have hln:=L.ln;have hl:=NN hw hk (by omega);rw [eI (by omega)] at hR;have hl0:0 < (p.2.1[k]).2.2.2.1.length:=by omega
 obtain ⟨o0,a0,b0,d0⟩:=Ch hw hk hl0;have cT0:∀ {S' M} w (hS:S.Le S') (V:St S' M w),Ac prog 111 [Bo si sn p,.int .i64 ((p.2.1[k]).2.2.2.1[0])] w fun v w'=>v=.int .i64 (A7 p f (AU (p.2.1[k]) 0))∧St S' M w':=fun w hS V=>by rw [b0,d0];exact CN p f w si sn o0 V (L.mono hS) hw hnm (by omega) (by omega)
 generalize A7 p f (AU (p.2.1[k]) 0)=t0 at *;have e3:(p.2.1[k].1 == 3)=false:=by rw [hv];rfl
 have e4:(p.2.1[k].1 == 4)=false:=by rw [hv];rfl
 have e5:(p.2.1[k].1 == 5)=false:=by rw [hv];rfl
 have e6:(p.2.1[k].1 == 6)=false:=by rw [hv];rfl
 have e7:(p.2.1[k].1 == 7)=false:=by rw [hv];rfl
 have e8:(p.2.1[k].1 == 8)=false:=by rw [hv];rfl
 have e9:(p.2.1[k].1 == 9)=false:=by rw [hv];rfl
 have e10:(p.2.1[k].1 == 10)=true:=by rw [hv];rfl
 have e12:(p.2.1[k].1 == 12)=false:=by rw [hv];rfl
 apply wT ()
theorem UU (V:St S M w) (L:Cm S si sn p) (hw:Cl p) (hnm:H6 p) (hk:k < p.2.1.length) (hf:p.2.1.length+1≤f) (hv:p.2.1[k].1=12) :
  Ac prog 68 [Bo si sn p,.int .i64 (k:Int)] w fun v w'=>v=.bool (A1 p f (p.2.1[k]))∧St S M w':=by
 unfold Ac;obtain ⟨R,hR⟩:∃ R,A1 p f (p.2.1[k])=R:=⟨_,rfl⟩
 rw [hR];have hn:=L.n;have hi:=L.i;have hln:=L.ln;have hl:=NO hw hk hv;rw [eI (by omega)] at hR;have hl0:0 < (p.2.1[k]).2.2.2.1.length:=by omega
 obtain ⟨o0,a0,b0,d0⟩:=Ch hw hk hl0;have cT0:∀ {S' M} w (hS:S.Le S') (V:St S' M w),Ac prog 111 [Bo si sn p,.int .i64 ((p.2.1[k]).2.2.2.1[0])] w fun v w'=>v=.int .i64 (A7 p f (AU (p.2.1[k]) 0))∧St S' M w':=fun w hS V=>by rw [b0,d0];exact CN p f w si sn o0 V (L.mono hS) hw hnm (by omega) (by omega)
 generalize A7 p f (AU (p.2.1[k]) 0)=t0 at *;have e3:(p.2.1[k].1 == 3)=false:=by rw [hv];rfl
 have e4:(p.2.1[k].1 == 4)=false:=by rw [hv];rfl
 have e5:(p.2.1[k].1 == 5)=false:=by rw [hv];rfl
 have e6:(p.2.1[k].1 == 6)=false:=by rw [hv];rfl
 have e7:(p.2.1[k].1 == 7)=false:=by rw [hv];rfl
 have e8:(p.2.1[k].1 == 8)=false:=by rw [hv];rfl
 have e9:(p.2.1[k].1 == 9)=false:=by rw [hv];rfl
 have e10:(p.2.1[k].1 == 10)=false:=by rw [hv];rfl
 have e12:(p.2.1[k].1 == 12)=true:=by rw [hv];rfl
 apply wT ()
theorem UT (V:St S M w) (L:Cm S si sn p) (hw:Cl p) (hnm:H6 p) (hk:k < p.2.1.length) (hf:p.2.1.length+1≤f) (hv:p.2.1[k].1=14) :
  Ac prog 68 [Bo si sn p,.int .i64 (k:Int)] w fun v w'=>v=.bool (A1 p f (p.2.1[k]))∧St S M w':=by
 unfold Ac;obtain ⟨R,hR⟩:∃ R,A1 p f (p.2.1[k])=R:=⟨_,rfl⟩
 rw [hR];have hn:=L.n;have hi:=L.i;have hln:=L.ln;have hl:=NN hw hk (by omega);rw [kR (by omega)] at hR;have hl0:0 < (p.2.1[k]).2.2.2.1.length:=by omega
 obtain ⟨o0,a0,b0,d0⟩:=Ch hw hk hl0;have cT0:∀ {S' M} w (hS:S.Le S') (V:St S' M w),Ac prog 111 [Bo si sn p,.int .i64 ((p.2.1[k]).2.2.2.1[0])] w fun v w'=>v=.int .i64 (A7 p f (AU (p.2.1[k]) 0))∧St S' M w':=fun w hS V=>by rw [b0,d0];exact CN p f w si sn o0 V (L.mono hS) hw hnm (by omega) (by omega)
 generalize A7 p f (AU (p.2.1[k]) 0)=t0 at *;have e3:(p.2.1[k].1 == 3)=false:=by rw [hv];rfl
 have e4:(p.2.1[k].1 == 4)=false:=by rw [hv];rfl
 have e5:(p.2.1[k].1 == 5)=false:=by rw [hv];rfl
 have e6:(p.2.1[k].1 == 6)=false:=by rw [hv];rfl
 have e7:(p.2.1[k].1 == 7)=false:=by rw [hv];rfl
 have e8:(p.2.1[k].1 == 8)=false:=by rw [hv];rfl
 have e9:(p.2.1[k].1 == 9)=false:=by rw [hv];rfl
 have e10:(p.2.1[k].1 == 10)=false:=by rw [hv];rfl
 have e12:(p.2.1[k].1 == 12)=false:=by rw [hv];rfl
 have e11:(p.2.1[k].1 == 11)=false:=by rw [hv];rfl
 have e14:(p.2.1[k].1 == 14)=true:=by rw [hv];rfl
 obtain ⟨z1,hz1⟩:∃ z,(t0 == 1)=z:=⟨_,rfl⟩
 have HR:Hid (R=z1):=Lib.hid (by rw [← hR,← hz1]);clear hR hv hl b0 d0 hnm hw;go_enter func68,ntmps68;repeat' ((apply ZZ 1);first|(apply O ();go_step)|(apply sB ();clear V;intro bx w V)|fail)
 refine wp_region_lit ?_;repeat' (first|(apply O ();go_step)|apply sX ()|(apply sD ();intro cl hcl)|(apply sI ();intro v L)|(apply sA ();clear V;intro bk w V)|fail)
 obtain ⟨so,rfl,ho,hI1,hI2,hI3⟩:=A5 hcl;clear hcl;rw [show Z.agg Nd=true from rfl];apply nW ();repeat' ((apply ZZ 19);first|apply sK ()|(apply O ();go_step)|apply sX ()|(apply sS ();clear V;intro w V)|fail)
 refine AD V kr ?_;clear V;intro ops;apply nW ();refine td 0 rfl ?_;refine td 1 rfl ?_;refine td 2 rfl ?_;refine tx 3 rfl (Aq X Ak rfl Y Y Af Af) ?_;rintro v L;replace L:=iN L;refine tx 4 rfl (Am X Ak Y) ?_;rintro v ⟨rfl,hI⟩;(refine AQ 5 rfl kr rfl (fun S' M' w hS hM V=>cT0 w hS V) Y rfl ?_)<;>apply nW ()
 refine tq 6 rfl (Do rfl rfl hz1) ?_;refine td 7 rfl ?_;apply Xc ()
theorem UV (V:St S M w) (L:Cm S si sn p) (hw:Cl p) (hnm:H6 p) (hk:k < p.2.1.length) (hf:p.2.1.length+1≤f) (hv:p.2.1[k].1=11) :
  Ac prog 68 [Bo si sn p,.int .i64 (k:Int)] w fun v w'=>v=.bool (A1 p f (p.2.1[k]))∧St S M w':=by
 unfold Ac;obtain ⟨R,hR⟩:∃ R,A1 p f (p.2.1[k])=R:=⟨_,rfl⟩
 rw [hR];have hn:=L.n;have hi:=L.i;have hln:=L.ln;have hl:=NN hw hk (by omega);obtain ⟨q,o,hq,h0,e1,hqk,hoq,e2⟩:=fW hw hk hv;rw [kT hv] at hR
 have e3:AU (Az p.2.1 (B0 p (p.2.1[k]).2.2.1)) 0=(o:Int):=by
  unfold AU;rw [e1,Be hq,List.getD_eq_getElem?_getD,List.getElem?_eq_getElem h0,← e2];rfl
 rw [e3] at hR;have cT9:∀ {S' M} w (hS:S.Le S') (V:St S' M w),Ac prog 111 [Bo si sn p,.int .i64 ((p.2.1[q]).2.2.2.1[0])] w fun v w'=>v=.int .i64 (A7 p f (o:Int))∧St S' M w':=fun w hS V=>by rw [e2];exact CN p f w si sn o V (L.mono hS) hw hnm (by omega) (by omega)
 have cF2:=fun {S' M} w (hS:S.Le S') (V:St S' M w)=>LL w V si sn p (L.mono hS) (p.2.1[k]).2.2.1
 rw [e1] at cF2;generalize A7 p f (o:Int)=t9 at *;have hl0:0 < (p.2.1[k]).2.2.2.1.length:=by omega
 obtain ⟨o0,a0,b0,d0⟩:=Ch hw hk hl0;have cT0:∀ {S' M} w (hS:S.Le S') (V:St S' M w),Ac prog 111 [Bo si sn p,.int .i64 ((p.2.1[k]).2.2.2.1[0])] w fun v w'=>v=.int .i64 (A7 p f (AU (p.2.1[k]) 0))∧St S' M w':=fun w hS V=>by rw [b0,d0];exact CN p f w si sn o0 V (L.mono hS) hw hnm (by omega) (by omega)
 generalize A7 p f (AU (p.2.1[k]) 0)=t0 at *;have e3:(p.2.1[k].1 == 3)=false:=by rw [hv];rfl
 have e4:(p.2.1[k].1 == 4)=false:=by rw [hv];rfl
 have e5:(p.2.1[k].1 == 5)=false:=by rw [hv];rfl
 have e6:(p.2.1[k].1 == 6)=false:=by rw [hv];rfl
 have e7:(p.2.1[k].1 == 7)=false:=by rw [hv];rfl
 have e8:(p.2.1[k].1 == 8)=false:=by rw [hv];rfl
 have e9:(p.2.1[k].1 == 9)=false:=by rw [hv];rfl
 have e10:(p.2.1[k].1 == 10)=false:=by rw [hv];rfl
 have e12:(p.2.1[k].1 == 12)=false:=by rw [hv];rfl
 have e11:(p.2.1[k].1 == 11)=true:=by rw [hv];rfl
 have e14:(p.2.1[k].1 == 14)=false:=by rw [hv];rfl
 obtain ⟨z1,hz1⟩:∃ z,(t0 == t9)=z:=⟨_,rfl⟩
 have HR:Hid (R=z1):=Lib.hid (by rw [← hR,← hz1]);clear hR hv hl b0 d0 hnm hw e1 e2 e3;go_enter func68,ntmps68;repeat' ((apply ZZ 1);first|(apply O ();go_step)|(apply sB ();clear V;intro bx w V)|fail)
 refine wp_region_lit ?_;repeat' (first|(apply O ();go_step)|apply sX ()|(apply sD ();intro cl hcl)|(apply sI ();intro v L)|(apply sA ();clear V;intro bk w V)|fail)
 obtain ⟨so,rfl,ho,hI1,hI2,hI3⟩:=A5 hcl;clear hcl;rw [show Z.agg Nd=true from rfl];apply nW ();repeat' ((apply ZZ 17);first|apply sK ()|(apply O ();go_step)|apply sX ()|(apply sS ();clear V;intro w V)|fail)
 refine AD V kr ?_;clear V;intro ops;apply nW ();refine td 0 rfl ?_;refine td 1 rfl ?_;refine td 2 rfl ?_;refine tx 3 rfl (Aq X Ak rfl Y Y Af Af) ?_;rintro v L;replace L:=iN L;refine tx 4 rfl (Am X Ak Y) ?_;rintro v ⟨rfl,hI⟩;(refine AQ 5 rfl kr rfl (fun S' M' w hS hM V=>cT0 w hS V) Y rfl ?_)<;>apply nW ()
 refine td 6 rfl ?_;refine td 7 rfl ?_;refine td 8 rfl ?_;refine td 9 rfl ?_;refine td 10 rfl ?_;refine td 11 rfl ?_;(refine AQ 12 rfl kr rfl (fun S' M' w hS hM V=>cF2 w hS V) Y rfl ?_)<;>apply nW ()
 refine tx 13 rfl (Aq X Ak rfl Y Y Af Af) ?_;rintro v L;replace L:=iN L;refine tx 14 rfl (As X Ak Y Y rfl) ?_;rintro v L;replace L:=iN L;refine tx 15 rfl (Aj X Ak Y) ?_;rintro v ⟨hvl,hv1⟩;refine tx 16 rfl (Aq X Ak rfl Y Y Af Af) ?_;rintro v L;replace L:=iN L;refine tx 17 rfl (Am X Ak Y) ?_;rintro v ⟨rfl,hI⟩;(refine AQ 18 rfl kr rfl (fun S' M' w hS hM V=>cT9 w hS V) Y rfl ?_)<;>apply nW ()
 refine tq 19 rfl (Do rfl rfl hz1) ?_;refine td 20 rfl ?_;apply Xc ()
theorem Rd (V:St S M w) (L:Cm S si sn p) (hw:Cl p) (hnm:H6 p) (hk:k < p.2.1.length) (hf:p.2.1.length+1≤f) (hv:(p.2.1[k].1 < 3∨15≤p.2.1[k].1∨p.2.1[k].1=13)) :
  Ac prog 68 [Bo si sn p,.int .i64 (k:Int)] w fun v w'=>v=.bool (A1 p f (p.2.1[k]))∧St S M w':=by
 unfold Ac;obtain ⟨R,hR⟩:∃ R,A1 p f (p.2.1[k])=R:=⟨_,rfl⟩
 rw [hR];have hn:=L.n;have hi:=L.i;have hln:=L.ln;rw [kQ hv] at hR;have HR:=Lib.hid hR;have e3:(p.2.1[k].1 == 3)=false:=by exact beq_eq_false_iff_ne.2 (by omega)
 have e4:(p.2.1[k].1 == 4)=false:=by exact beq_eq_false_iff_ne.2 (by omega)
 have e5:(p.2.1[k].1 == 5)=false:=by exact beq_eq_false_iff_ne.2 (by omega)
 have e6:(p.2.1[k].1 == 6)=false:=by exact beq_eq_false_iff_ne.2 (by omega)
 have e7:(p.2.1[k].1 == 7)=false:=by exact beq_eq_false_iff_ne.2 (by omega)
 have e8:(p.2.1[k].1 == 8)=false:=by exact beq_eq_false_iff_ne.2 (by omega)
 have e9:(p.2.1[k].1 == 9)=false:=by exact beq_eq_false_iff_ne.2 (by omega)
 have e10:(p.2.1[k].1 == 10)=false:=by exact beq_eq_false_iff_ne.2 (by omega)
 have e12:(p.2.1[k].1 == 12)=false:=by exact beq_eq_false_iff_ne.2 (by omega)
 have e11:(p.2.1[k].1 == 11)=false:=by exact beq_eq_false_iff_ne.2 (by omega)
 have e14:(p.2.1[k].1 == 14)=false:=by exact beq_eq_false_iff_ne.2 (by omega)
 clear hR hv hnm hw;go_enter func68,ntmps68;repeat' ((apply ZZ 1);first|(apply O ();go_step)|(apply sB ();clear V;intro bx w V)|fail)
 refine wp_region_lit ?_;repeat' (first|(apply O ();go_step)|apply sX ()|(apply sD ();intro cl hcl)|(apply sI ();intro v L)|(apply sA ();clear V;intro bk w V)|fail)
 obtain ⟨so,rfl,ho,hI1,hI2,hI3⟩:=A5 hcl;clear hcl;rw [show Z.agg Nd=true from rfl];apply nW ();repeat' (first|apply sK ()|(apply O ();go_step)|apply sX ()|(apply sS ();clear V;intro w V)|fail)
 go_ret;exact ⟨_,rfl,by rw [← HR.out];rfl,V.sub⟩
theorem aM (V:St S M w) (L:Cm S si sn p) (hw:Cl p) (hnm:H6 p) (hk:k < p.2.1.length) (hf:p.2.1.length+1≤f) :
  Ac prog 68 [Bo si sn p,.int .i64 (k:Int)] w fun v w'=>v=.bool (A1 p f (p.2.1[k]))∧St S M w':=by
 by_cases h:p.2.1[k].1 < 3∨15≤p.2.1[k].1∨p.2.1[k].1=13
 ·exact Rd V L hw hnm hk hf h
 ·obtain h|h|h|h|h|h|h|h|h|h|h:p.2.1[k].1=3∨p.2.1[k].1=4∨p.2.1[k].1=5∨p.2.1[k].1=6∨p.2.1[k].1=7∨p.2.1[k].1=8∨p.2.1[k].1=9∨p.2.1[k].1=10∨p.2.1[k].1=11∨p.2.1[k].1=12∨p.2.1[k].1=14:=by omega
  ·exact XE V L hw hnm hk hf h
  ·exact XD V L hw hnm hk hf h
  ·exact XC V L hw hnm hk hf h
  ·exact XB V L hw hnm hk hf h
  ·exact XA V L hw hnm hk hf h
  ·exact Xz V L hw hnm hk hf h
  ·exact Xy V L hw hnm hk hf h
  ·exact UW V L hw hnm hk hf h
  ·exact UV V L hw hnm hk hf h
  ·exact UU V L hw hnm hk hf h
  ·exact UT V L hw hnm hk hf h
end
end Go.Proofs.YtmmbidoldegemaaGreatDoor
