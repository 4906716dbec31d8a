/- Part 38 of a proof; no conditions. -/
import Derived.Test.YtmmbidoldegemaaGreatDoorZ10
import Derived.Test.YtmmbidoldegemaaGreatDoorZ16
import Derived.Test.YtmmbidoldegemaaGreatDoorZ18
import Derived.Test.YtmmbidoldegemaaGreatDoorZ25
import Derived.Test.YtmmbidoldegemaaGreatDoorZ29
import Derived.Test.YtmmbidoldegemaaGreatDoorZ35
import Derived.Test.YtmmbidoldegemaaGreatDoorZ36
set_option linter.all false
set_option maxRecDepth 8000
set_option maxHeartbeats 8000000
namespace Go.Sl
open Go.RowKit
theorem wo {Gqq:Prop} (_:Unit) (k:Gqq:=by
 repeat' (first|(apply tB ();refine Ag V (Gg rfl rfl (by infer_instance)) ?_;simp only [Option.isNone_none,Option.isNone_some];apply nZ ())|(apply O ();go_step)|fail)
 apply aw ()):Gqq:=k
theorem wn {Gqq:Prop} (_:Unit) (k:Gqq:=by
 unfold enter;rw [hip];by_cases h12:(Az ns k).1=12
 ·rw [if_pos (by simpa using h12),if_pos h12,hpt h12]
 ·rw [if_neg (by simpa using h12),if_neg h12]):Gqq:=k
end Go.Sl
namespace Go.Proofs.YtmmbidoldegemaaGreatDoor
open Go.RowKit Go.Sl Go.Proofs.Tryz
def uQ (en:List (Int×Int)) (took:List Int) (i:Nat):Bool:=!(took.getD i 0 != 0 && Ib (en.getD i (-1,0)).1 (en.getD i (-1,0)).2 took)
def uG (en:List (Int×Int)) (took:List Int):Bool:=Gs took en.length 0 && (List.range took.length).all (uQ en took)
def ux (o t:List Int):Prop:=o.length=t.length∧∀ i,o.getD i 0 = -1∨o.getD i 0=t.getD i 0
theorem uO {q s o t} (h:ux o t) (hs:Ib q s o=true):Ib q s t=true:=by
 unfold Ib at hs ⊢;split at hs
 ·cases hs
 ·rename_i hc;rw [if_neg hc];simp only [Bool.and_eq_true,bne_iff_ne] at hs;rcases h.2 q.toNat with e|e
  ·exact absurd e hs.1
  ·rw [← e];simp only [Bool.and_eq_true,bne_iff_ne];exact hs
theorem vA {en t i} (h:uQ en t i=true) (hs:Hq en t i=true):t.getD i 0=0:=by
 unfold uQ at h;unfold Hq at hs;rw [hs] at h
 simpa using h
theorem vD {en t} (L:∀ i < t.length,uQ en t i=true) {x} (h:ux x.1 t) (i):ux (GB en x i).1 t:=by
 unfold GB;split
 ·rename_i hc;simp only [Bool.and_eq_true,beq_iff_eq] at hc;refine ⟨by simpa using h.1,fun j=>?_⟩;simp only [Wv];split
  ·rename_i hij;subst hij;right;by_cases hl:i < t.length
   ·exact (vA (L i hl) (uO h hc.2)).symm
   ·simp [List.getD_eq_getElem?_getD,List.getElem?_eq_none (by omega:t.length≤i)]
  ·exact h.2 j
 ·exact h
theorem vP {l:List Int} {x} (h:x∈l):∃ i < l.length,l.getD i 0=x:=by
 obtain ⟨i,hi,rfl⟩:=List.mem_iff_getElem.1 h;exact ⟨i,hi,Ko hi⟩
theorem uI {en t}:uG en t=true↔(t.length=en.length∧∀ x∈t,0≤x∧x≤3)∧∀ i < t.length,uQ en t i=true:=by
 simp only [uG,Bool.and_eq_true,OC,List.all_eq_true,List.mem_range]
theorem ve {en took h} (L:uG en took=true) (hh:ux h took):∃ l,DS en h=some l∧ux l took∧NR h l:=by
 obtain ⟨⟨h1,h2⟩,h3⟩:=uI.1 L;have ha:ux (C4 en (h.length+1) h) took:=Js (p:=fun o=>ux o took) (fun x i=>fun hx=>vD h3 hx i) _ hh;have hk:NR h (C4 en (h.length+1) h):=Js (p:=fun o=>NR h o) (fun x i=>fun hx=>TY hx i) _ ⟨rfl,fun _ _=>rfl⟩;refine ⟨_,Uf.2 ⟨⟨hh.1.trans h1,fun x hx=>?_⟩,rfl,fun i hi hb=>?_⟩,ha,hk⟩
 ·obtain ⟨i,hi,rfl⟩:=vP hx;rcases hh.2 i with e|e
  ·omega
  ·have:=h2 _ (List.getElem_mem (h:=(by have:=hh.1;omega:i < took.length)));rw [e,Ko (by have:=hh.1;omega)];omega
 ·have hz:=vA (h3 i (by rw [ha.1] at hi;exact hi)) (uO ha hb.2);rcases ha.2 i with e|e
  ·omega
  ·omega
end Go.Proofs.YtmmbidoldegemaaGreatDoor
namespace Go.Sl
open Go.RowKit
def uy:List Value→List Tmp→List Value→List Value
 | l,t::ts,v::vs=>uy (l.set t v) ts vs
 | l,_,_=>l
theorem uU (l t ts v vs):uy l (t::ts) (v::vs)=uy (l.set t v) ts vs:=rfl
theorem vd (l vs):uy l [] vs=l:=by cases vs<;>rfl
theorem wh {P} {c:Code} {Q:Exit→Act→World→Prop} {l D w} (upd) (R:List Value→World→Prop) (h1:∀ Q':Exit→Act→World→Prop,(∀ vs w,R vs w→Q' .normal ⟨(uy l upd vs).toArray,D⟩ w)→c.wp P Q' ⟨l.toArray,D⟩ w) (h2:∀ vs w,R vs w→Q .normal ⟨(uy l upd vs).toArray,D⟩ w):c.wp P Q ⟨l.toArray,D⟩ w:=h1 Q h2
end Go.Sl
namespace Go.Proofs.YtmmbidoldegemaaGreatDoor
open Go.RowKit Go.Sl Go.Proofs.Tryz
theorem uk {α:Type} (l:List α) (i j a d):(l.set i a).getD j d=if i=j∧i < l.length then a else l.getD j d:=by
 rw [List.getD_eq_getElem?_getD,List.getD_eq_getElem?_getD,List.getElem?_set];by_cases h:i=j
 ·subst h;by_cases h2:i < l.length
  ·rw [if_pos rfl,if_pos h2,if_pos ⟨rfl,h2⟩];rfl
  ·rw [if_pos rfl,if_neg h2,if_neg (fun e=>h2 e.2),List.getElem?_eq_none (by omega)]
 ·rw [if_neg h,if_neg (fun e=>h e.1)]
def vG (rec:Int→Int×Int→List (Int×(Int×Int))) (pt:Bool) (n:Int) (ar:Int×Int):Nat→List Int→List (Int×(Int×Int))
 | _,[]=>[]
 | i,o::os=>rec o (GC pt n ar i)++vG rec pt n ar (i+1) os
def uF (ns:List Nd):Nat→Int→Int×Int→List (Int×(Int×Int))
 | 0,_,_=>[]
 | f+1,k,ar=>(if (Az ns k).1=12 then [((Az ns k).2.1,ar)] else [])++vG (uF ns f) (decide ((Az ns k).1=12)) (Az ns k).2.1 ar 0 (Az ns k).2.2.2.1
def uP (ns:List Nd) (f:Nat) (pt:Bool) (n:Int) (ar:Int×Int):Nat→List Int→Gr→Gr
 | _,[],s=>s
 | i,o::os,s=>uP ns f pt n ar (i+1) os (Ec ns f o (GC pt n ar i) s)
theorem uT (ns:List Nd) (f:Nat) (pt:Bool) (n:Int) (ar:Int×Int):∀ (os:List Int) (i:Nat) (s:Gr),(List.range os.length).foldl (fun t j=>Ec ns f (os.getD j 0) (GC pt n ar (i+j)) t) s=uP ns f pt n ar i os s
 | [],i,s=>rfl
 | o::os,i,s=>by
  rw [List.length_cons,List.range_succ_eq_map,List.foldl_cons,List.foldl_map,uP,← uT ns f pt n ar os (i+1)]
  have e:(fun t j=>Ec ns f ((o::os).getD (j.succ) 0) (GC pt n ar (i+j.succ)) t)=fun t j=>Ec ns f (os.getD j 0) (GC pt n ar (i+1+j)) t:=by
   funext t j
   rw [show i+j.succ=i+1+j from by omega];rfl
  rw [e];rfl
theorem wa (ns f pt n ar os s):La ns f pt n ar os s os.length=uP ns f pt n ar 0 os s:=by
 rw [← uT];unfold La
 congr 1
 funext t j
 rw [Nat.zero_add]
structure uD (s s':Gr) (w w':Wk) (C:List (Int×(Int×Int))):Prop where
 seen:∀ j:Nat,s'.seen.getD j true=(s.seen.getD j true || decide (w.1≤(j:Int)∧(j:Int) < w'.1))
 found:∀ j:Nat,s'.found.getD j true=(s.found.getD j true || decide (w.2.1≤(j:Int)∧(j:Int) < w'.2.1))
 out:∀ j:Nat,((j:Int) < w.2.1∨w'.2.1≤(j:Int))→s'.out.getD j (-1,0)=s.out.getD j (-1,0)
 ctx:∀ x∈C,w.2.1≤x.1∧x.1 < w'.2.1∧s'.out.getD x.1.toNat (-1,0)=x.2
theorem uD.refl (s w):uD s s w w [] :=
 ⟨fun j=>by rw [decide_eq_false (by omega),Bool.or_false],fun j=>by rw [decide_eq_false (by omega),Bool.or_false],fun j _=>rfl,fun x hx=>by cases hx⟩
theorem vK {b} {x y z j:Int} (h1:x≤y) (h2:y≤z):(b || decide (x≤j∧j < y) || decide (y≤j∧j < z))=(b || decide (x≤j∧j < z)):=by
 rw [Bool.or_assoc]
 congr 1
 rw [← Bool.decide_or];apply decide_eq_decide.2;omega
theorem uD.trans {s s1 s2 w w1 w2 C1q0 C2} (h:uD s s1 w w1 C1q0) (h':uD s1 s2 w1 w2 C2) (a1:w.1≤w1.1) (a2:w1.1≤w2.1) (b0:0≤w.2.1) (b1:w.2.1≤w1.2.1) (b2:w1.2.1≤w2.2.1):uD s s2 w w2 (C1q0++C2):=by
 refine ⟨fun j=>?_,fun j=>?_,fun j hj=>?_,fun x hx=>?_⟩
 ·rw [h'.seen,h.seen,vK a1 a2]
 ·rw [h'.found,h.found,vK b1 b2]
 ·rw [h'.out j (by omega),h.out j (by omega)]
 ·rcases List.mem_append.1 hx with hx|hx
  ·obtain ⟨c1,c2,c3⟩:=h.ctx x hx;exact ⟨c1,by omega,by rw [h'.out _ (by omega),c3]⟩
  ·obtain ⟨c1,c2,c3⟩:=h'.ctx x hx;exact ⟨by omega,c2,c3⟩
section
variable {ns:List Nd} {np f:Nat}
abbrev vU (ns:List Nd) (np f:Nat):Prop:=∀ (k:Int) (ar:Int×Int) (w:Wk) (s:Gr),0≤k→k < ns.length→0≤w.1→0≤w.2.1→w.2.2=false→(El ns f k w).2.2=false→JF ns np s→(El ns f k w).2.1≤np →
 (∀ j:Nat,w.1≤j→(j:Int) < (El ns f k w).1→s.seen.getD j true=false)→(∀ j:Nat,w.2.1≤j→(j:Int) < (El ns f k w).2.1→s.found.getD j true=false)→uD s (Ec ns f k ar s) w (El ns f k w) (uF ns f k ar)
theorem uS (H:vU ns np f) (pt:Bool) (n:Int) (ar:Int×Int) (k:Int) (hk:k≤ns.length):∀ (os cs:List Int) (i:Nat) (w:Wk) (s:Gr),0≤w.1→0≤w.2.1→w.2.2=false→(Ca (El ns f) ns k os cs w).1.2.2=false→(Ca (El ns f) ns k os cs w).2=false→cs.length=os.length →
  JF ns np s→(Ca (El ns f) ns k os cs w).1.2.1≤np→(∀ j:Nat,w.1≤j→(j:Int) < (Ca (El ns f) ns k os cs w).1.1→s.seen.getD j true=false)→(∀ j:Nat,w.2.1≤j→(j:Int) < (Ca (El ns f) ns k os cs w).1.2.1→s.found.getD j true=false) →
  uD s (uP ns f pt n ar i os s) w (Ca (El ns f) ns k os cs w).1 (vG (uF ns f) pt n ar i os)
 | [],cs,i,w,s,w0,w1,hw,hr,hg,hl,hf,hn,hs,hd=>by
  have e:Ca (El ns f) ns k [] cs w=(w,false):=by cases cs<;>rfl
  rw [e];exact uD.refl s w
 | o::os,[],i,w,s,w0,w1,hw,hr,hg,hl,hf,hn,hs,hd=>by simp at hl
 | o::os,c::cs,i,w,s,w0,w1,hw,hr,hg,hl,hf,hn,hs,hd=>by
  rw [Ca,if_neg (by rw [hw];decide)] at hr hg hn hs hd ⊢;by_cases hc:o < 0∨k≤o∨Ea (Az ns o).1≠c
  ·rw [if_pos hc] at hr;cases hr
  ·rw [if_neg hc] at hr hg hn hs hd ⊢
   cases hbo:(El ns f o w).2.2 with
   | true =>
    have e:Ca (El ns f) ns k os cs (El ns f o w)=(El ns f o w,false):=by
     apply ju ()
    rw [e,hbo] at hr;cases hr
   | false =>
    have b:=KG (ns:=ns) f o w (by omega) hw;have B:=NW (ns:=ns) (rec:=El ns f) (k:=k) (by omega) (fun o w ho _ hw=>KG f o w ho hw) os cs (El ns f o w) hbo;have n1:=b.n1;have p1:=b.p1;have n2:=B.n1;have p2:=B.p1;have v:=H o (GC pt n ar i) w s (by omega) (by omega) w0 w1 hw hbo hf (by omega) (fun j h1 h2=>hs j h1 (by omega)) (fun j h1 h2=>hd j h1 (by omega))
    have r:=uS H pt n ar k hk os cs (i+1) (El ns f o w) (Ec ns f o (GC pt n ar i) s) (by omega) (by omega) hbo hr hg (by simpa using hl) (J3 f _ _ _ hf) hn
     (fun j h1 h2=>by rw [v.seen,hs j (by omega) h2,decide_eq_false (by omega)];rfl) (fun j h1 h2=>by rw [v.found,hd j (by omega) h2,decide_eq_false (by omega)];rfl)
    exact v.trans r n1 n2 w1 p1 p2
theorem uN:∀ f,vU ns np f
 | 0,k,ar,w,s,hk,hkn,w0,w1,hw,hr,hf,hn,hs,hd=>by cases hr
 | f+1,k,ar,w,s,hk,hkn,w0,w1,hw,hr,hf,hn,hs,hd=>by
  rw [El] at hr hn hs hd ⊢;by_cases hc:Ea (Az ns k).1=0∨(EW (Az ns k).1 (Az ns k).2.2.2.1.length).length≠(Az ns k).2.2.2.1.length∨((Az ns k).1=12∧(Az ns k).2.1≠w.2.1)
  ·rw [if_pos hc] at hr;cases hr
  ·rw [if_neg hc] at hr hn hs hd ⊢;have hlen:(EW (Az ns k).1 (Az ns k).2.2.2.1.length).length=(Az ns k).2.2.2.1.length:=Decidable.byContradiction fun e=>hc (.inr (.inl e))
   have hpt:(Az ns k).1=12→(Az ns k).2.1=w.2.1:=fun e=>Decidable.byContradiction fun e2=>hc (.inr (.inr ⟨e,e2⟩))
   have B:=NW (ns:=ns) (rec:=El ns f) hk (fun o w ho hok hw=>KG f o w ho hw) (Az ns k).2.2.2.1 (EW (Az ns k).1 (Az ns k).2.2.2.1.length) (w.1,if (Az ns k).1=12 then w.2.1+1 else w.2.1,w.2.2) hw;have K:=uS (uN f) (decide ((Az ns k).1=12)) (Az ns k).2.1 ar k (by omega) (Az ns k).2.2.2.1 (EW (Az ns k).1 (Az ns k).2.2.2.1.length) 0 (w.1,if (Az ns k).1=12 then w.2.1+1 else w.2.1,w.2.2);have hgo:=(SW (nodes:=ns) (f:=f) (k:=k) (ar:=ar) (s:=s) (nd:=Az ns k))
   rw [uF];simp only at hr hn hs hd B K ⊢;generalize hW:Ca (El ns f) ns k (Az ns k).2.2.2.1 (EW (Az ns k).1 (Az ns k).2.2.2.1.length) (w.1,if (Az ns k).1=12 then w.2.1+1 else w.2.1,w.2.2)=r at *
   have hg:r.2=false:=by
    cases hg:r.2 with
    | false=>rfl
    | true =>
     rw [if_pos hg,(B.gave hg).1] at hr;cases hr
   have hgn:¬ (r.2=true):=by rw [hg];decide
   rw [if_neg hgn] at hr;simp only [if_neg hgn] at hn hs hd ⊢;simp only [Bool.or_eq_false_iff,bne_eq_false_iff_eq] at hr;obtain ⟨hr1,hr2⟩:=hr;have n1:=B.n1;have p1:=B.p1;simp only at n1 p1;have hsk:s.seen.getD k.toNat true=false:=hs k.toNat (by omega) (by omega)
   have hgoes:goes ns k s=some (Az ns k):=by
    unfold goes;rw [if_neg (by rw [hsk];intro h;rcases h with h|h;omega;cases h),Az,List.getD_eq_getElem?_getD,List.getElem?_eq_getElem (by omega)];rfl
   rw [hgo hgoes,wa]
   have hip:Ck (Az ns k) s=decide ((Az ns k).1=12):=by
    unfold Ck;by_cases h12:(Az ns k).1=12
    ·rw [if_pos h12] at p1;rw [decide_eq_true h12,hpt h12,decide_eq_true w1,hf.out,decide_eq_true (by omega),hd w.2.1.toNat (by omega) (by omega)];rfl
    ·rw [decide_eq_false h12];rfl
   rw [hip];have hse:(enter k.toNat (Az ns k) ar s).seen=s.seen.set k.toNat true:=by unfold enter;split<;>rfl
   have hfe:(enter k.toNat (Az ns k) ar s).found=if (Az ns k).1=12 then s.found.set w.2.1.toNat true else s.found:=by
    apply wn ()
   have hoe:(enter k.toNat (Az ns k) ar s).out=if (Az ns k).1=12 then s.out.set w.2.1.toNat ar else s.out:=by
    apply wn ()
   have hfe2:=hf.enter k.toNat (Az ns k) ar;have hf1:=hf.seen;have hf2:=hf.out;have hf3:=hf.found;generalize enter k.toNat (Az ns k) ar s=s1 at *
   have V:=K s1 w0 (by split<;>omega) hw hr1 hg hlen hfe2 hn
    (fun j h1 h2=>by rw [hse,uk,if_neg (by omega)];exact hs j h1 (by omega))
    (fun j h1 h2=>by
     rw [hfe];by_cases h12:(Az ns k).1=12
     ·rw [if_pos h12] at h1 ⊢;rw [uk,if_neg (by omega)];exact hd j (by omega) h2
     ·rw [if_neg h12] at h1 ⊢;exact hd j h1 h2)
   refine ⟨fun j=>?_,fun j=>?_,fun j hj=>?_,fun x hx=>?_⟩
   ·rw [V.seen,hse,uk];simp only;by_cases hj:k.toNat=j∧k.toNat < s.seen.length
    ·rw [if_pos hj,decide_eq_true (p:=w.1≤(j:Int)∧(j:Int) < r.1.1+1) (by omega),Bool.or_true,Bool.true_or]
    ·rw [if_neg hj]
     congr 1
     apply decide_eq_decide.2;omega
   ·rw [V.found,hfe];simp only;by_cases h12:(Az ns k).1=12
    ·rw [if_pos h12] at p1;simp only [if_pos h12];rw [uk];by_cases hj:w.2.1.toNat=j∧w.2.1.toNat < s.found.length
     ·rw [if_pos hj,decide_eq_true (p:=w.2.1≤(j:Int)∧(j:Int) < r.1.2.1) (by omega),Bool.or_true,Bool.true_or]
     ·rw [if_neg hj]
      congr 1
      apply decide_eq_decide.2;omega
    ·simp only [if_neg h12]
   ·simp only at hj;rw [V.out j (by simp only;split<;>omega),hoe];by_cases h12:(Az ns k).1=12
    ·rw [if_pos h12] at p1;rw [if_pos h12,uk,if_neg (by omega)]
    ·rw [if_neg h12]
   ·by_cases h12:(Az ns k).1=12
    ·rw [if_pos h12] at p1;simp only [if_pos h12] at V hx ⊢;rcases List.mem_append.1 hx with hx|hx
     ·obtain rfl:=List.mem_singleton.1 hx;have hq:=hpt h12;refine ⟨by simp only;omega,by simp only;omega,?_⟩;simp only;rw [V.out _ (by simp only;omega),hoe,if_pos h12,hq,uk,if_pos ⟨rfl,by omega⟩]
     ·obtain ⟨c1,c2,c3⟩:=V.ctx x hx;simp only at c1 c2;exact ⟨by omega,c2,c3⟩
    ·simp only [if_neg h12] at V hx ⊢;exact V.ctx x (by simpa using hx)
theorem wc {p} (hw:Cl p) (hp8:p.2.2.2.1≤8):∀ x∈uF p.2.1 (p.2.1.length+1) p.2.2.1 (-1,0),(BM p.2.1 p.2.2.1 p.2.2.2.1).getD x.1.toNat (-1,0)=x.2∧0≤x.1∧x.1 < p.2.2.2.1:=by
 have n0:=hw.n0;have e:CL p.2.2.2.1=(max p.2.2.2.1 0).toNat:=by unfold CL;omega
 have b:=KG (ns:=p.2.1) (p.2.1.length+1) ((p.2.1.length:Int) - 1) (0,0,false) (by omega) rfl;have p1:=b.p1
 have V:=uN (ns:=p.2.1) (np:=CL p.2.2.2.1) (p.2.1.length+1) ((p.2.1.length:Int) - 1) (-1,0) (0,0,false) ⟨List.replicate p.2.1.length false,List.replicate (CL p.2.2.2.1) (-1,0),List.replicate (CL p.2.2.2.1) false⟩
  (by omega) (by omega) (by simp) (by simp) rfl (by rw [hw.wk]) ⟨by simp,by simp,by simp⟩ (by rw [hw.wk] at p1 ⊢;simp only at p1 ⊢;omega)
  (fun j h1 h2=>by
   rw [hw.wk] at h2;simp only at h2;rw [List.getD_eq_getElem?_getD,List.getElem?_replicate,if_pos (by omega)];rfl)
  (fun j h1 h2=>by
   rw [hw.wk] at h2;simp only at h2;rw [List.getD_eq_getElem?_getD,List.getElem?_replicate,if_pos (by omega)];rfl)
 rw [hw.wk,← hw.rt] at V;intro x hx;obtain ⟨c1,c2,c3⟩:=V.ctx x hx;exact ⟨c3,c1,c2⟩
end
theorem UL {c ins gl r} (hr:H3 c ins gl=r):r.1.1.length≤8∧r.1.2.1.length≤3000:=by
 subst hr;unfold H3
 cases hv:Em c ins with
 | false=>rw [if_neg (by simp)];exact ⟨Nat.zero_le _,Nat.zero_le _⟩
 | true =>
  rw [if_pos rfl];have g0:=MV hv
  have h8:c.2.2.1≤8:=by
   unfold Em at hv;simp only [Bool.and_eq_true,decide_eq_true_eq,List.all_eq_true] at hv;exact hv.1.1.1.2
  cases e:F7 c gl 3001 (C3 c ins) with
  | err k=>exact ⟨Nat.zero_le _,Nat.zero_le _⟩
  | ok t =>
   have g2:=PQ (gl:=gl) 3001 (C3 c ins) g0 (Nat.le_add_right _ _);rw [e] at g2;have g:=g2.1;have h1:=g.plen;have h2:=g.nlen;have h3:=g.steps;refine ⟨?_,?_⟩
   ·show t.pts.length≤8;omega
   ·show t.notes.length≤3000;omega
theorem Qs (bs:List UInt8):∀ (xs:List Ip) (i:Nat),(Ef bs xs i).length=xs.length
 | [],_=>rfl
 | d::r,i=>by rw [Ef,List.length_cons,List.length_cons,Qs bs r]
def UI (e:Ev):Prop:=e.2.1.length≤6∧e.2.2.1.length≤8∧e.2.2.2.1.length≤3000
theorem WU {p} (h:BH p=0):p.1.length≤6:=by
 by_cases hn:p.1.length≤6
 ·exact hn
 ·exfalso;unfold BH at h;simp only at h;split at h
  ·cases h
  ·split at h
   ·cases h
   ·split at h
    ·cases h
    ·rw [if_pos (.inr (.inl (by omega)))] at h;cases h
theorem eT {x p ins o} (h:GN x=some (p,ins,o)):ins.length≤6∧o.1.length≤8∧o.2.1.length≤3000:=by
 unfold GN at h;split at h
 ·cases h
 ·rename_i h0;split at h
  ·cases h
  ·cases h
   have hk:BH (Cq x.1.b).1=0:=by
    have h1:=not_or.1 h0;have h2:=not_or.1 h1.2;exact Decidable.of_not_not h2.2
   refine ⟨?_,(UL rfl).1,(UL rfl).2⟩;rw [Qs];exact WU hk
theorem MH:∀ (l:List Rn) (k:Nat) (a:List Pg×List Ev),(∀ e∈a.2,UI e)→∀ e∈(Du l k a).2,UI e
 | [],k,a,h=>h
 | x::r,k,a,h=>by
  rw [Du];split
  ·exact h
  ·split
   ·exact MH r (k+1) a h
   ·rename_i p ins o hq;refine MH r (k+1) _ fun e he=>?_
    rcases List.mem_append.1 he with he|he
    ·exact h e he
    ·rw [List.mem_singleton] at he;subst he;exact eT hq
theorem dZ (l):(F2 l).1.length=(F2 l).2.length∧(F2 l).2.length≤4∧∀ e∈(F2 l).2,UI e:=by
 have h:=Lp l 0 ([],[]) rfl (Nat.zero_le _);refine ⟨h.1,?_,MH l 0 ([],[]) fun e he=>by cases he⟩;have h2:=h.2;have h1:=h.1;unfold F2;omega
theorem iY {e} (h:UI e):JD e:=⟨by have:=h.1;omega,by have:=h.2.1;omega,by have:=h.2.2;omega⟩
abbrev ul:=Int×Int
def uw (rec:Int→List (List ul)):List Int→List (List ul)
 | []=>[]
 | o::os=>rec o++uw rec os
def ui (ns:List Nd):Nat→Int→List ul→List (List ul)
 | 0,_,_=>[]
 | f+1,k,st =>
   let n:=Az ns k
   if n.1=1 then [st]
   else if n.1=2 then [st]
   else if n.1=12 then
    if n.2.2.2.1.length=2 then ui ns f (AU n 0) st++st::ui ns f (AU n 1) ((n.2.1,1)::st)
    else ui ns f (AU n 0) st++st::(ui ns f (AU n 1) ((n.2.1,1)::st)++((n.2.1,1)::st)::ui ns f (AU n 2) ((n.2.1,2)::st))
   else if n.1=13 then st::st::(ui ns f (AU n 0) st++[st])
   else if n.1=15 then [st]
   else if n.1=16 then [st]
   else uw (fun o=>ui ns f o st) n.2.2.2.1++(if n.1=17 then [] else [st])
def uu (rec:Int→Int→List Fg):List Int→Int→List Fg
 | [],_=>[]
 | o::os,p=>rec o p++uu rec os (p+(rec o p).length)
theorem uJ (rec:Int→Int→List Fg):∀ (os:List Int) (pos:Int) (out:List Fg),Bz rec os pos out=out++uu rec os (pos+out.length)
 | [],pos,out=>by rw [Bz,uu,List.append_nil]
 | o::os,pos,out=>by
  rw [Bz,uJ rec os,uu,List.append_assoc,List.length_append]
  congr 3
  omega
def uz (Nqq:Int→List ul) (pos:Int) (l:List (List ul)):Prop:=∀ (i:Nat) (h:i < l.length),Nqq (pos+i)=l[i]
theorem uz.left {Nqq pos a b} (h:uz Nqq pos (a++b)):uz Nqq pos a:=fun i hi=>by
 rw [h i (by rw [List.length_append];omega),List.getElem_append_left hi]
theorem uz.right {Nqq pos a b} (h:uz Nqq pos (a++b)):uz Nqq (pos+a.length) b:=fun i hi=>by
 have:=h (a.length+i) (by rw [List.length_append];omega);rw [List.getElem_append_right (by omega)] at this;rw [show pos+(a.length:Int)+(i:Int)=pos+((a.length+i:Nat):Int) from by omega,this];simp
theorem uz.hd {Nqq pos a b} (h:uz Nqq pos (a::b)):Nqq pos=a:=by
 have:=h 0 (by simp)
 simpa using this
theorem uz.tl {Nqq pos a b} (h:uz Nqq pos (a::b)):uz Nqq (pos+1) b:=by
 have:=uz.right (a:=[a]) (b:=b) h
 simpa using this
def uB (en:Int→ul) (Nqq:Int→List ul) (pos:Int) (x:Fg):Prop :=
 (x.1=12→(Nqq pos).headD (-1,0)=en x.2.2.1∧(∀ e∈Nqq (pos+1),e∈(x.2.2.1,1)::Nqq pos)∧∀ e∈Nqq x.2.1,e∈(x.2.2.1,2)::Nqq pos) ∧
 (x.1=13→∀ e∈Nqq x.2.1,e∈Nqq pos)∧(x.1=17→∀ e∈Nqq x.2.2.1,e∈Nqq pos) ∧
 (x.1≠12→x.1≠13→x.1≠15→x.1≠16→∀ e∈Nqq (pos+1),e∈Nqq pos)
def uo (en:Int→ul) (Nqq:Int→List ul) (pos:Int) (l:List Fg):Prop:=∀ (i:Nat) (h:i < l.length),uB en Nqq (pos+i) l[i]
theorem uo.app {en Nqq pos a b} (h1:uo en Nqq pos a) (h2:uo en Nqq (pos+a.length) b):uo en Nqq pos (a++b):=fun i hi=>by
 by_cases h:i < a.length
 ·rw [List.getElem_append_left h];exact h1 i h
 ·rw [List.getElem_append_right (by omega)];have:=h2 (i - a.length) (by rw [List.length_append] at hi;omega);rw [show pos+(a.length:Int)+((i - a.length:Nat):Int)=pos+i from by omega] at this;exact this
theorem uo.nil {en Nqq pos}:uo en Nqq pos []:=fun i hi=>absurd hi (by simp)
theorem uo.one {en Nqq pos op a b} (h:uB en Nqq pos (op,a,b,())):uo en Nqq pos (i1 op a b):=fun i hi=>by
 obtain rfl:i=0:=by unfold i1 at hi;simp at hi;exact hi
 simpa [i1] using h
theorem uB.plain {en Nqq pos op a b} (h:op≠12∧op≠13∧op≠17) (hn:op=15∨op=16∨∀ e∈Nqq (pos+1),e∈Nqq pos):uB en Nqq pos (op,a,b,()) :=
 ⟨fun e=>absurd e h.1,fun e=>absurd e h.2.1,fun e=>absurd e h.2.2,fun _ _ h5 h6=>by
  rcases hn with h|h|h
  ·exact absurd h h5
  ·exact absurd h h6
  ·exact h⟩
theorem uB.br {en Nqq pos a b} (h1:(Nqq pos).headD (-1,0)=en b) (h2:∀ e∈Nqq (pos+1),e∈(b,1)::Nqq pos) (h3:∀ e∈Nqq a,e∈(b,2)::Nqq pos):uB en Nqq pos (12,a,b,()) :=
 ⟨fun _=>⟨h1,h2,h3⟩,fun h=>absurd h (show ¬ ((12:Int)=13) by decide),fun h=>absurd h (show ¬ ((12:Int)=17) by decide),fun h=>absurd rfl h⟩
theorem uB.jmp {en Nqq pos a b} (h:∀ e∈Nqq a,e∈Nqq pos):uB en Nqq pos (13,a,b,()) :=
 ⟨fun h=>absurd h (show ¬ ((13:Int)=12) by decide),fun _=>h,fun h=>absurd h (show ¬ ((13:Int)=17) by decide),fun _ h=>absurd rfl h⟩
theorem uB.rep {en Nqq pos a b} (h:∀ e∈Nqq b,e∈Nqq pos) (h2:∀ e∈Nqq (pos+1),e∈Nqq pos):uB en Nqq pos (17,a,b,()) :=
 ⟨fun h=>absurd h (show ¬ ((17:Int)=12) by decide),fun h=>absurd h (show ¬ ((17:Int)=13) by decide),fun _=>h,fun _ _ _ _=>h2⟩
theorem uE {a b c}:(i1 a b c).length=1:=rfl
def um (st:List ul) (l:List (List ul)):Prop:=∀ x r,l=x::r→x=st
theorem um.cons {st l}:um st (st::l):=fun x r h=>by cases h;rfl
theorem um.nil {st}:um st []:=fun x r h=>by cases h
theorem um.app {st a b} (h1:um st a) (h2:um st b):um st (a++b):=fun x r h=>by
 cases a with
 | nil=>exact h2 x r h
 | cons y a=>cases h;exact h1 _ _ rfl
theorem ut {Nqq pos st l} (h:uz Nqq pos l) (hh:um st l) (he:∀ e∈Nqq (pos+l.length),e∈st):∀ e∈Nqq pos,e∈st:=by
 cases l with
 | nil=>simpa using he
 | cons x l=>rw [h.hd,hh x l rfl];exact fun e h=>h
theorem uR {rec:Int→List (List ul)} {st:List ul} (h:∀ o,um st (rec o)):∀ os,um st (uw rec os)
 | []=>um.nil
 | o::os=>(h o).app (uR h os)
theorem uv (ns:List Nd):∀ (f:Nat) (k:Int) (st:List ul),um st (ui ns f k st)
 | 0,k,st=>um.nil
 | f+1,k,st=>by
  rw [ui];generalize Az ns k=n;split
  ·exact um.cons
  split
  ·exact um.cons
  split
  ·split
   ·exact (uv ns f _ st).app um.cons
   ·exact (uv ns f _ st).app um.cons
  split
  ·exact um.cons
  split
  ·exact um.cons
  split
  ·exact um.cons
  ·refine (uR (fun o=>uv ns f o st) _).app ?_;split
   ·exact um.nil
   ·exact um.cons
theorem uL {rec:Int→List (List ul)} {rmq0:Int→Int→List Fg} (h:∀ o q,(rmq0 o q).length=(rec o).length):∀ os pos,(uu rmq0 os pos).length=(uw rec os).length
 | [],pos=>rfl
 | o::os,pos=>by rw [uu,uw,List.length_append,List.length_append,h,uL h os]
theorem uj (p:Pg):∀ (f:Nat) (k:Int) (st:List ul) (pos:Int),(AH p f k pos).length=(ui p.2.1 f k st).length
 | 0,k,st,pos=>rfl
 | f+1,k,st,pos=>by
  rw [AH,ui];simp only [uJ,List.nil_append,List.length_nil];generalize Az p.2.1 k=n;split
  ·rfl
  split
  ·rfl
  split
  ·split
   ·simp only [i1,List.length_append,List.length_cons,List.length_nil];rw [uj p f (AU n 0) st pos,uj p f (AU n 1) ((n.2.1,1)::st)];omega
   ·simp only [i1,List.length_append,List.length_cons,List.length_nil];rw [uj p f (AU n 0) st pos,uj p f (AU n 1) ((n.2.1,1)::st),uj p f (AU n 2) ((n.2.1,2)::st)];omega
  split
  ·simp only [i1,List.length_append,List.length_cons,List.length_nil];rw [uj p f (AU n 0) st];omega
  split
  ·rfl
  split
  ·rfl
  ·have hl:=uL (rec:=fun o=>ui p.2.1 f o st) (rmq0:=AH p f) (fun o q=>uj p f o st q) n.2.2.2.1;split
   ·rename_i h11;rw [if_neg (by omega),List.length_append,List.length_append,hl];rfl
   split
   ·rename_i h14;rw [if_neg (by omega),List.length_append,List.length_append,hl];rfl
   split
   ·rw [List.length_append,hl];rfl
   ·rw [List.length_append,List.length_append,hl];rfl
theorem uZ {rec:Int→Int×Int→List (Int×(Int×Int))} {pt:Bool} {n:Int} {ar:Int×Int} {x:Int×(Int×Int)}:∀ (os:List Int) (i j:Nat),j < os.length→x∈rec (os.getD j 0) (GC pt n ar (i+j))→x∈vG rec pt n ar i os
 | [],i,j,h,hx=>by simp at h
 | o::os,i,0,h,hx=>List.mem_append.2 (.inl hx)
 | o::os,i,j+1,h,hx=>List.mem_append.2 (.inr (uZ os (i+1) j (by simpa using h) (by rw [show i+1+j=i+(j+1) from by omega];exact hx)))
section
variable {p:Pg} {en:Int→ul} {Nqq:Int→List ul}
abbrev uM (p:Pg) (en:Int→ul) (Nqq:Int→List ul) (f:Nat) (k:Int) (st:List ul):Prop:=∀ pos,uz Nqq pos (ui p.2.1 f k st)→(∀ e∈Nqq (pos+(ui p.2.1 f k st).length),e∈st)→uo en Nqq pos (AH p f k pos)
theorem u0 {f:Nat} {st:List ul}:∀ (os:List Int) (pos:Int),(∀ o∈os,uM p en Nqq f o st)→uz Nqq pos (uw (fun o=>ui p.2.1 f o st) os)→(∀ e∈Nqq (pos+(uw (fun o=>ui p.2.1 f o st) os).length),e∈st)→uo en Nqq pos (uu (AH p f) os pos)
 | [],pos,H,h,he=>uo.nil
 | o::os,pos,H,h,he=>by
  rw [uw] at h he;rw [List.length_append] at he;rw [uu]
  have e1:∀ e∈Nqq (pos+(ui p.2.1 f o st).length+(uw (fun o=>ui p.2.1 f o st) os).length),e∈st:=by
   rw [show pos+((ui p.2.1 f o st).length:Int)+((uw (fun o=>ui p.2.1 f o st) os).length:Int)=pos+(((ui p.2.1 f o st).length+(uw (fun o=>ui p.2.1 f o st) os).length:Nat):Int) from by omega];exact he
  refine (H o (List.mem_cons_self ..) pos h.left (ut h.right (uR (fun o=>uv p.2.1 f o st) os) e1)).app ?_;rw [uj p f o st];exact u0 os _ (fun o ho=>H o (List.mem_cons_of_mem _ ho)) h.right e1
theorem vJ (hw:Cl p):∀ (f:Nat) (k:Int) (st:List ul),0≤k→k < p.2.1.length→(∀ x∈uF p.2.1 f k (st.headD (-1,0)),en x.1=x.2)→uM p en Nqq f k st
 | 0,k,st,hk0,hk,hc,pos,h,he=>uo.nil
 | f+1,k,st,hk0,hk,hc,pos,h,he=>by
  have hnd:=hw.nd k hk0 hk
  have kid:∀ (j:Nat) (st':List ul),j < (Az p.2.1 k).2.2.2.1.length→st'.headD (-1,0)=GC (decide ((Az p.2.1 k).1=12)) (Az p.2.1 k).2.1 (st.headD (-1,0)) j→uM p en Nqq f (AU (Az p.2.1 k) j) st':=fun j st' hj hs=>by
   obtain ⟨a,b,c⟩:=hnd.ofs j hj;refine vJ hw f _ st' a (by omega) fun x hx=>hc x ?_
   rw [uF];refine List.mem_append.2 (.inr (uZ _ 0 j hj ?_));rw [Nat.zero_add,← hs];exact hx
  have hlen:=hnd.len;have meq0:(Az p.2.1 k).1=12→en (Az p.2.1 k).2.1=st.headD (-1,0):=fun e=>hc ((Az p.2.1 k).2.1,st.headD (-1,0)) (by rw [uF,if_pos e];exact List.mem_append.2 (.inl (List.mem_singleton.2 rfl)))
  clear hc;rw [ui] at h he;rw [AH];simp only [uJ,List.nil_append,List.length_nil] at h he ⊢;generalize Az p.2.1 k=n at *;clear hnd;by_cases k1:n.1=1
  ·rw [if_pos k1] at h he ⊢;exact .one (.plain (by omega) (.inr (.inr (by rw [h.hd];simpa using he))))
  rw [if_neg k1] at h he ⊢;by_cases k2:n.1=2
  ·rw [if_pos k2] at h he ⊢;exact .one (.plain (by omega) (.inr (.inr (by rw [h.hd];simpa using he))))
  rw [if_neg k2] at h he ⊢;by_cases k12:n.1=12
  ·rw [if_pos k12] at h he ⊢;rw [decide_eq_true k12] at kid;have meq0:=meq0 k12;by_cases kl:n.2.2.2.1.length=2
   ·rw [if_pos kl] at h he ⊢;have s0q0:=kid 0 st (by omega) rfl;have s1:=kid 1 ((n.2.1,1)::st) (by omega) rfl;have h0:=h.left;have hm:=h.right.hd;have h1:=h.right.tl;have l0:=uj p f (AU n 0) st pos;have l1:=uj p f (AU n 1) ((n.2.1,1)::st) (pos+(AH p f (AU n 0) pos).length+1);have g1:=uv p.2.1 f (AU n 1) ((n.2.1,1)::st);unfold uM at s0q0 s1;generalize ui p.2.1 f (AU n 0) st=A0q0 at *;generalize ui p.2.1 f (AU n 1) ((n.2.1,1)::st)=A1q0 at *;rw [l0] at l1 ⊢;rw [l1]
    have he:∀ e∈Nqq (pos+(A0q0.length:Int)+1+(A1q0.length:Int)),e∈st:=by
     rwa [show pos+((A0q0++st::A1q0).length:Int)=pos+(A0q0.length:Int)+1+(A1q0.length:Int) from by rw [List.length_append,List.length_cons];omega] at he
    have e1:∀ e∈Nqq (pos+(A0q0.length:Int)+1),e∈(n.2.1,1)::st:=ut h1 g1 fun e h=>List.mem_cons_of_mem _ (he e h)
    refine ((s0q0 pos h0 (fun e h=>by rw [hm] at h;exact h)).app (.one ?_)).app ?_
    ·rw [l0];exact .br (by rw [hm];exact meq0.symm) (by rw [hm];exact e1) (by rw [hm];exact fun e h=>List.mem_cons_of_mem _ (he e h))
    ·rw [List.length_append,l0,uE,show pos+((A0q0.length+1:Nat):Int)=pos+(A0q0.length:Int)+1 from by omega];exact s1 _ h1 fun e h=>List.mem_cons_of_mem _ (he e h)
   ·rw [if_neg kl] at h he ⊢
    have kl3:n.2.2.2.1.length=3:=by
     unfold EW at hlen;rw [if_neg (by omega),if_neg (by omega),if_pos k12] at hlen;split at hlen
     ·assumption
     ·exact absurd hlen.symm kl
    have s0q0:=kid 0 st (by omega) rfl;have s1:=kid 1 ((n.2.1,1)::st) (by omega) rfl;have s2:=kid 2 ((n.2.1,2)::st) (by omega) rfl;have h0:=h.left;have hm:=h.right.hd;have h1:=h.right.tl.left;have hm2:=h.right.tl.right.hd;have h2:=h.right.tl.right.tl;have l0:=uj p f (AU n 0) st pos;have l1:=uj p f (AU n 1) ((n.2.1,1)::st) (pos+(AH p f (AU n 0) pos).length+1);have l2:=uj p f (AU n 2) ((n.2.1,2)::st) (pos+(AH p f (AU n 0) pos).length+1+(AH p f (AU n 1) (pos+(AH p f (AU n 0) pos).length+1)).length+1);have g1:=uv p.2.1 f (AU n 1) ((n.2.1,1)::st);have g2:=uv p.2.1 f (AU n 2) ((n.2.1,2)::st);unfold uM at s0q0 s1 s2;generalize ui p.2.1 f (AU n 0) st=A0q0 at *;generalize ui p.2.1 f (AU n 1) ((n.2.1,1)::st)=A1q0 at *;generalize ui p.2.1 f (AU n 2) ((n.2.1,2)::st)=A2q0 at *;rw [l0] at l1 l2 ⊢;rw [l1] at l2 ⊢;rw [l2]
    have he:∀ e∈Nqq (pos+(A0q0.length:Int)+1+(A1q0.length:Int)+1+(A2q0.length:Int)),e∈st:=by
     rwa [show pos+((A0q0++st::(A1q0++((n.2.1,1)::st)::A2q0)).length:Int)=pos+(A0q0.length:Int)+1+(A1q0.length:Int)+1+(A2q0.length:Int) from by rw [List.length_append,List.length_cons,List.length_append,List.length_cons];omega] at he
    have e1:∀ e∈Nqq (pos+(A0q0.length:Int)+1),e∈(n.2.1,1)::st:=ut h1 g1 fun e h=>by rw [hm2] at h;exact h
    have e2:∀ e∈Nqq (pos+(A0q0.length:Int)+1+(A1q0.length:Int)+1),e∈(n.2.1,2)::st:=ut h2 g2 fun e h=>List.mem_cons_of_mem _ (he e h)
    refine ((((s0q0 pos h0 (fun e h=>by rw [hm] at h;exact h)).app (.one ?_)).app ?_).app (.one ?_)).app ?_
    ·rw [l0];exact .br (by rw [hm];exact meq0.symm) (by rw [hm];exact e1) (by rw [hm];exact e2)
    ·rw [List.length_append,l0,uE,show pos+((A0q0.length+1:Nat):Int)=pos+(A0q0.length:Int)+1 from by omega];exact s1 _ h1 fun e h=>by rw [hm2] at h;exact h
    ·rw [List.length_append,List.length_append,l0,l1,uE,show pos+((A0q0.length+1+A1q0.length:Nat):Int)=pos+(A0q0.length:Int)+1+(A1q0.length:Int) from by omega];exact .jmp (by rw [hm2];exact fun e h=>List.mem_cons_of_mem _ (he e h))
    ·rw [List.length_append,List.length_append,List.length_append,l0,l1,uE,uE,show pos+((A0q0.length+1+A1q0.length+1:Nat):Int)=pos+(A0q0.length:Int)+1+(A1q0.length:Int)+1 from by omega];exact s2 _ h2 fun e h=>List.mem_cons_of_mem _ (he e h)
  rw [if_neg k12] at h he ⊢;rw [decide_eq_false k12] at kid;by_cases k13:n.1=13
  ·rw [if_pos k13] at h he ⊢
   have hl1:n.2.2.2.1.length=1:=by
    unfold EW at hlen;rw [if_neg (by omega),if_neg (by omega),if_neg k12,if_pos k13] at hlen;exact hlen.symm
   have s0q0:=kid 0 st (by omega) rfl;have ha:=h.hd;have hb:=h.tl.hd;have h0:=h.tl.tl.left;have hc:=h.tl.tl.right.hd;have l0:=uj p f (AU n 0) st (pos+2);have g0:=uv p.2.1 f (AU n 0) st;unfold uM at s0q0;rw [show pos+1+1=pos+2 from by omega] at h0 hc;generalize ui p.2.1 f (AU n 0) st=A0q0 at *
   have he:∀ e∈Nqq (pos+2+(A0q0.length:Int)+1),e∈st:=by
    rwa [show pos+((st::st::(A0q0++[st])).length:Int)=pos+2+(A0q0.length:Int)+1 from by rw [List.length_cons,List.length_cons,List.length_append,List.length_singleton];omega] at he
   have x0:∀ e∈Nqq (pos+2+(A0q0.length:Int)),e∈st:=fun e h=>by rw [hc] at h;exact h
   have e0:=ut h0 g0 x0;refine (((uo.one (.plain (by omega) (.inr (.inr ?_)))).app (.one (.plain (by omega) (.inr (.inr ?_))))).app ?_).app (.one ?_)
   ·rw [ha,hb];exact fun e h=>h
   ·rw [show pos+((i1 1 n.2.1 0).length:Int)=pos+1 from rfl,hb,show pos+1+1=pos+2 from by omega];exact e0
   ·rw [show pos+((i1 1 n.2.1 0++i1 3 (D9 p k.toNat) 0).length:Int)=pos+2 from rfl];exact s0q0 _ h0 x0
   ·rw [show pos+((i1 1 n.2.1 0++i1 3 (D9 p k.toNat) 0++AH p f (AU n 0) (pos+2)).length:Int)=pos+2+(A0q0.length:Int) from by rw [List.length_append,l0,show (i1 1 n.2.1 0++i1 3 (D9 p k.toNat) 0).length=2 from rfl];omega];exact .rep (by rw [hc];exact e0) (by rw [hc];exact he)
  rw [if_neg k13] at h he ⊢;by_cases k15:n.1=15
  ·rw [if_pos k15] at h he ⊢;exact .one (.plain (by omega) (.inl rfl))
  rw [if_neg k15] at h he ⊢;by_cases k16:n.1=16
  ·rw [if_pos k16] at h he ⊢;exact .one (.plain (by omega) (.inr (.inl rfl)))
  rw [if_neg k16] at h he ⊢
  have H:∀ o∈n.2.2.2.1,uM p en Nqq f o st:=fun o ho=>by
   obtain ⟨j,hj,rfl⟩:=List.getElem_of_mem ho;have:=kid j st hj (by unfold GC;rw [if_neg (by simp),if_neg (by simp)]);unfold AU at this;rw [List.getD_eq_getElem?_getD,List.getElem?_eq_getElem hj] at this;exact this
  have hl:=uL (rec:=fun o=>ui p.2.1 f o st) (rmq0:=AH p f) (fun o q=>uj p f o st q) n.2.2.2.1;have h0:=h.left;have K:=u0 (p:=p) (en:=en) (Nqq:=Nqq) (f:=f) (st:=st) n.2.2.2.1 pos H h0;by_cases k17:n.1=17
  ·rw [if_pos k17,List.append_nil] at he;rw [if_neg (by omega),if_neg (by omega),if_pos k17];rw [show pos+((0:Nat):Int)=pos from by omega];exact K he
  ·rw [if_neg k17] at h he;have hm:=h.right.hd;have x0:∀ e∈Nqq (pos+((uw (fun o=>ui p.2.1 f o st) n.2.2.2.1).length:Int)),e∈st:=fun e h=>by rw [hm] at h;exact h
   have last:∀ op a b,op≠12∧op≠13∧op≠17→uo en Nqq pos (uu (AH p f) n.2.2.2.1 (pos+((0:Nat):Int))++i1 op a b):=fun op a b ho=>by
    rw [show pos+((0:Nat):Int)=pos from by omega];refine (K x0).app (.one (.plain ho (.inr (.inr ?_))));rw [hl,hm];rwa [List.length_append,List.length_singleton,show pos+(((uw (fun o=>ui p.2.1 f o st) n.2.2.2.1).length+1:Nat):Int)=pos+((uw (fun o=>ui p.2.1 f o st) n.2.2.2.1).length:Int)+1 from by omega] at he
   by_cases k11:n.1=11
   ·rw [if_pos k11];exact last _ _ _ (by omega)
   rw [if_neg k11];by_cases k14:n.1=14
   ·rw [if_pos k14];exact last _ _ _ (by omega)
   rw [if_neg k14,if_neg k17];refine last _ _ _ ?_
   have:∀ i:Nat,Kl.getD i 0≠12∧Kl.getD i 0≠13∧Kl.getD i 0≠17:=fun i=>by
    by_cases hi:i < 11
    ·revert i;decide
    ·rw [List.getD_eq_getElem?_getD,List.getElem?_eq_none (by simpa [Kl] using hi)];decide
   exact this _
end
def uY (pts:List Int) (e:ul):Prop:=(e.2=1∨e.2=2)∧(pts.getD e.1.toNat 0=e.2∨pts.getD e.1.toNat 0=3)
theorem vy {v s} (hv:0≤v∧v≤3) (hs:s=1∨s=2):(GH v s=s∨GH v s=3)∧(v=1∨v=2∨v=3→GH v s=v∨GH v s=3)∧0≤GH v s∧GH v s≤3:=by
 obtain rfl|rfl|rfl|rfl:v=0∨v=1∨v=2∨v=3:=by omega
 all_goals obtain rfl|rfl:=hs
 all_goals decide
structure ur (en:Int→ul) (Nqq:Int→List ul) (s:VS):Prop where
 at_:s.done=true∨∀ e∈Nqq s.pc,uY s.pts e
 rng:∀ i:Nat,0≤s.pts.getD i 0∧s.pts.getD i 0≤3
 ok:∀ i:Nat,i < s.pts.length→s.pts.getD i 0≠0→en i=(-1,0)∨uY s.pts (en i)
section
variable {en:Int→ul} {Nqq:Int→List ul} {s t:VS}
theorem ur.keep (h:ur en Nqq s) (hd:s.done=false) (h1:t.pts=s.pts) (h2:t.done=true∨∀ e∈Nqq t.pc,e∈Nqq s.pc):ur en Nqq t:=by
 refine ⟨?_,fun i=>by rw [h1];exact h.rng i,fun i=>by rw [h1];exact h.ok i⟩;rcases h2 with h2|h2
 ·exact .inl h2
 ·refine .inr fun e he=>?_
  rw [h1];rcases h.at_ with h3|h3
  ·rw [hd] at h3;cases h3
  ·exact h3 e (h2 e he)
theorem uY.mono {pts i e sdq0} (h:uY pts e) (hr:∀ i:Nat,0≤pts.getD i 0∧pts.getD i 0≤3) (hs:sdq0=1∨sdq0=2):uY (pts.set i (GH (pts.getD i 0) sdq0)) e:=by
 refine ⟨h.1,?_⟩;rw [uk];by_cases hi:i=e.1.toNat∧i < pts.length
 ·rw [if_pos hi,hi.1];have h2:=h.2;have h1:=h.1;rcases (vy (hr e.1.toNat) hs).2.1 (by omega) with h3|h3
  ·rw [h3];exact h.2
  ·exact .inr h3
 ·rw [if_neg hi];exact h.2
theorem ur.branch (h:ur en Nqq s) (hd:s.done=false) {b sdq0} (hs:sdq0=1∨sdq0=2) (hb0:0≤b) (hb:b.toNat < s.pts.length) (hen:(Nqq s.pc).headD (-1,0)=en b) (h1:t.pts=C6 s.pts b (GH (s.pts.getD b.toNat 0) sdq0)) (h2:∀ e∈Nqq t.pc,e∈(b,sdq0)::Nqq s.pc):ur en Nqq t:=by
 have hat:∀ e∈Nqq s.pc,uY s.pts e:=by
  rcases h.at_ with h3|h3
  ·rw [hd] at h3;cases h3
  ·exact h3
 unfold C6 at h1;have ovq0:=vy (h.rng b.toNat) hs;refine ⟨.inr fun e he=>?_,fun i=>?_,fun i hi h0=>?_⟩
 ·rw [h1];rcases List.mem_cons.1 (h2 e he) with rfl|hm
  ·refine ⟨hs,?_⟩;rw [uk,if_pos ⟨rfl,hb⟩];exact ovq0.1
  ·exact (hat e hm).mono h.rng hs
 ·rw [h1,uk];split
  ·exact ovq0.2.2
  ·exact h.rng i
 ·rw [h1] at h0 hi ⊢;rw [List.length_set] at hi;by_cases hbi:b.toNat=i
  ·have:en i=en b:=by congr 1;omega
   rw [this,← hen]
   cases hn:Nqq s.pc with
   | nil=>exact .inl rfl
   | cons e r=>exact .inr ((hat e (by rw [hn];exact List.mem_cons_self ..)).mono h.rng hs)
  ·rw [uk,if_neg (fun e=>hbi e.1)] at h0;rcases h.ok i hi h0 with h3|h3
   ·exact .inl h3
   ·exact .inr (h3.mono h.rng hs)
theorem ur.push (h:ur en Nqq s) (hd:s.done=false) {u v} (hu:u.pts=s.pts) (L:∀ e∈Nqq u.pc,e∈Nqq s.pc) (hr:Cc u v=.ok t):ur en Nqq t:=by
 unfold Cc at hr;split at hr
 ·cases hr;exact h.keep hd hu (.inr L)
 ·cases hr
theorem vI {c gl} (hc:uo en Nqq 0 c.1) (hpl:s.pts.length=c.2.2.1.toNat) (h:ur en Nqq s) (hd:s.done=false) (hr:Fp c gl s=.ok t):ur en Nqq t:=by
 unfold Fp at hr;split at hr
 ·split at hr
  ·rename_i hpc;split at hr
   ·have hi:=hc s.pc.toNat (by omega)
    have e1:c.1[s.pc.toNat]'(by omega)=GV c s.pc:=by
     unfold GV;rw [List.getD_eq_getElem?_getD,List.getElem?_eq_getElem (by omega)];rfl
    rw [e1,show (0:Int)+(s.pc.toNat:Int)=s.pc from by omega] at hi;generalize GV c s.pc=i at *;obtain ⟨i12,i13,i17,iel⟩:=hi;have hu:(BO s).pts=s.pts:=rfl;have hupc:(BO s).pc=s.pc+1:=rfl;have hud:(BO s).done=s.done:=rfl;generalize hus:BO s=u at *;have pk:i.1 < 12∨i.1=14∨16 < i.1→∀ e∈Nqq u.pc,e∈Nqq s.pc:=fun q=>by rw [hupc];exact iel (by omega) (by omega) (by omega) (by omega)
    have erq0:∀ k,VR.err k=.ok t→ur en Nqq t:=fun k e=>by cases e
    revert hr
    refine Jl (m:=fun r=>r=.ok t→ur en Nqq t) (fun _=>h.push hd hu (pk (by omega))) (fun _=>?_) (fun _=>?_) (fun _ _ _ _=>?_) (fun _=>?_) (fun a=>?_) (fun a hr=>by cases hr;exact h.keep hd hu (.inr (i13 a))) (fun _=>?_) (fun _ hr=>by cases hr;exact h.keep hd hu (.inl rfl)) (fun _ hr=>by cases hr;exact h.keep hd hu (.inl rfl)) (fun _=>?_)
    ·split
     ·exact h.push hd hu (pk (by omega))
     ·exact erq0 _
    ·split
     ·exact erq0 _
     split
     ·intro hr;cases hr;exact h.keep hd hu (.inr (pk (by omega)))
     ·exact erq0 _
    ·split
     ·exact erq0 _
     ·exact h.push (u:=BJ (BJ u)) hd hu (pk (by omega))
    ·split
     ·exact erq0 _
     ·exact h.push (u:=BJ u) hd hu (pk (by omega))
    ·obtain ⟨j1,j2,j3q0⟩:=i12 a;unfold Gq;split
     ·exact erq0 _
     split
     ·rename_i hb;simp only;split
      ·intro hr;cases hr;exact h.branch hd (.inl rfl) hb.1 (by omega) j1 (by rw [← hu]) (by show ∀ e∈Nqq u.pc,_;rw [hupc];exact j2)
      ·intro hr;cases hr;exact h.branch hd (.inr rfl) hb.1 (by omega) j1 (by rw [← hu]) j3q0
     ·exact erq0 _
    ·split
     ·exact erq0 _
     ·intro hr;cases hr;exact h.keep hd hu (.inr (pk (by omega)))
    ·split
     ·intro hr;cases hr;refine h.keep hd hu (.inr fun e he=>?_);simp only at he;split at he
      ·exact i17 (by omega) e he
      ·exact pk (by omega) e he
     ·exact erq0 _
   ·cases hr
  ·cases hr
 ·cases hr
theorem uV {c:B9} {gl:List Int} (hc:uo en Nqq 0 c.1):∀ (f:Nat) (s t:VS),Br c s→ur en Nqq s→F7 c gl f s=.ok t→ur en Nqq t
 | 0,s,t,hg,h,hr=>by cases hr;exact h
 | f+1,s,t,hg,h,hr=>by
  rw [F7] at hr;split at hr
  ·cases hr;exact h
  ·rename_i hd
   cases hs:Fp c gl s with
   | err k=>rw [hs] at hr;cases hr
   | ok u =>
    rw [hs] at hr
    have hd':s.done=false:=by cases e:s.done with
     | false=>rfl
     | true=>exact absurd e hd
    have g:=OI (gl:=gl) hg hd';rw [hs] at g;exact uV hc f u t g.1 (vI hc hg.plen h hd' hs) hr
end
def uK (p:Pg) (i:Int):List ul:=if i < 0 then [] else (ui p.2.1 (p.2.1.length+1) p.2.2.1 []).getD i.toNat []
theorem we {p} (hw:Cl p) (h8:p.2.2.2.1≤8):uo (fun i=>(BM p.2.1 p.2.2.1 p.2.2.2.1).getD i.toNat (-1,0)) (uK p) 0 (AH p (p.2.1.length+1) p.2.2.1 0++i1 16 0 0):=by
 have n0:=hw.n0;have hrt:=hw.rt;refine (vJ hw (p.2.1.length+1) p.2.2.1 [] (by omega) (by omega) (fun x hx=>(wc hw h8 x hx).1) 0 (fun i hi=>?_) fun e he=>?_).app (.one (.plain (by omega) (.inr (.inl rfl))))
 ·unfold uK;rw [if_neg (by omega),List.getD_eq_getElem?_getD,show ((0:Int)+(i:Int)).toNat=i from by omega,List.getElem?_eq_getElem hi];rfl
 ·unfold uK at he;rw [if_neg (by omega),List.getD_eq_getElem?_getD,List.getElem?_eq_none (by omega)] at he;exact he
theorem vW {q s t} (h:(q,s)=((-1:Int),(0:Int))∨uY t (q,s)):Ib q s t=false:=by
 unfold Ib;rcases h with h|⟨h1,h2⟩
 ·cases h;rw [if_pos ⟨rfl,rfl⟩]
 ·simp only at h1 h2;rw [if_neg (by omega)];generalize t.getD q.toNat 0=v at *;obtain rfl|rfl:=h1
  all_goals obtain rfl|rfl:=h2
  all_goals decide
theorem uH {p} (h:BH p=0):CV p=true∧p.2.2.2.1≤8:=by
 unfold BH at h;simp only at h;split at h
 ·cases h
 ·rename_i h1
  refine ⟨by cases e:CV p with
   | true=>rfl
   | false=>exact absurd e h1,?_⟩
  split at h
  ·cases h
  ·split at h
   ·cases h
   ·split at h
    ·cases h
    ·omega
theorem vQ (ns r n):(BM ns r n).length=CL n:=by
 unfold BM;exact (J3 (np:=CL n) _ _ _ _ ⟨by simp,by simp,by simp⟩).out
theorem vV {p ins} (hc:BH p=0) (hr:(H3 (Jn p) ins []).2=0):uG (BM p.2.1 p.2.2.1 p.2.2.2.1) (H3 (Jn p) ins []).1.1=true∧(H3 (Jn p) ins []).1.1.length=p.2.2.2.1.toNat:=by
 obtain ⟨hf,h8⟩:=uH hc;have hw:=LK hf;have n0:=hw.n0
 have hco:Jn p=(AH p (p.2.1.length+1) p.2.2.1 0++i1 16 0 0,D9 p p.2.1.length,p.2.2.2.1,()):=by
  unfold Jn GE;simp only;rw [if_neg (by rw [hc];decide)]
 have hk:=we hw h8;have b:=KG (ns:=p.2.1) (p.2.1.length+1) ((p.2.1.length:Int) - 1) (0,0,false) (by omega) rfl;have p1:=b.p1;rw [hw.wk] at p1;simp only at p1;unfold H3 at hr ⊢
 cases hv:Em (Jn p) ins with
 | false=>rw [hv] at hr;simp at hr
 | true =>
  rw [hv] at hr;rw [if_pos rfl] at hr ⊢;have g0:=MV hv
  cases e:F7 (Jn p) [] 3001 (C3 (Jn p) ins) with
  | err k =>
   rw [e] at hr;have g2:=PQ (gl:=[]) 3001 (C3 (Jn p) ins) g0 (Nat.le_add_right _ _);rw [e] at g2;simp only at hr;rcases g2 with g2|g2|g2<;>omega
  | ok t =>
   have g2:=PQ (gl:=[]) 3001 (C3 (Jn p) ins) g0 (Nat.le_add_right _ _);rw [e] at g2;have g:=g2.1;have hpl:=g.plen
   have hst0:∀ i:Nat,(C3 (Jn p) ins).pts.getD i 0=0:=fun i=>by
    show (List.replicate _ (0:Int)).getD i 0=0;rw [List.getD_eq_getElem?_getD,List.getElem?_replicate];split<;>rfl
   have I0q0:ur (fun i=>(BM p.2.1 p.2.2.1 p.2.2.2.1).getD i.toNat (-1,0)) (uK p) (C3 (Jn p) ins):=by
    refine ⟨.inr fun e he=>?_,fun i=>by rw [hst0];decide,fun i hi h0=>absurd (hst0 i) h0⟩
    have:=ut (Nqq:=uK p) (pos:=0) (st:=[]) (l:=ui p.2.1 (p.2.1.length+1) p.2.2.1 []) (fun i hi=>by
     unfold uK;rw [if_neg (by omega),List.getD_eq_getElem?_getD,show ((0:Int)+(i:Int)).toNat=i from by omega,List.getElem?_eq_getElem hi];rfl) (uv _ _ _ _) (fun e he=>by
     unfold uK at he;rw [if_neg (by omega),List.getD_eq_getElem?_getD,List.getElem?_eq_none (by omega)] at he;exact he) e he
    cases this
   have I:=uV (c:=Jn p) (gl:=[]) (by rw [hco];exact hk) 3001 _ t g0 I0q0 e;have hp2:(Jn p).2.2.1=p.2.2.2.1:=by rw [hco]
   rw [hp2] at hpl;refine ⟨uI.2 ⟨⟨?_,g.pts⟩,fun i hi=>?_⟩,hpl⟩
   ·rw [vQ];show t.pts.length=_;unfold CL;omega
   ·unfold uQ;show (!(t.pts.getD i 0 != 0 && Ib _ _ t.pts))=true;by_cases h0:t.pts.getD i 0=0
    ·rw [h0];rfl
    ·have:=I.ok i hi h0;simp only [Int.toNat_natCast] at this;have hs:Ib ((BM p.2.1 p.2.2.1 p.2.2.2.1).getD i (-1,0)).1 ((BM p.2.1 p.2.2.1 p.2.2.2.1).getD i (-1,0)).2 t.pts=false:=vW this;rw [hs,Bool.and_false];rfl
def fS (a b:Int×Int):Prop:=a.1 < b.1∨(a.1=b.1∧a.2 < b.2)
def H0 (l:List Ev) (i j:Nat) (ps:List (Int×Int)):Prop :=
 ps.Pairwise fS∧∀ p∈ps,0≤p.1∧0≤p.2∧(p.1 < (i:Int)∨(p.1=(i:Int)∧p.2 < (j:Int)))∧∃ e,l[p.1.toNat]? = some e∧p.2 < (e.2.2.1.length:Int)
theorem bQ {l}:H0 l 0 0 []:=⟨List.Pairwise.nil,fun p L=>absurd L List.not_mem_nil⟩
theorem YI {l i j ps} (h:H0 l i j ps):H0 l i (j+1) ps :=
 ⟨h.1,fun p L=>by obtain ⟨a,b,c,d⟩:=h.2 p L;exact ⟨a,b,by omega,d⟩⟩
theorem YH {l i j ps} (h:H0 l i j ps):H0 l (i+1) 0 ps :=
 ⟨h.1,fun p L=>by obtain ⟨a,b,c,d⟩:=h.2 p L;exact ⟨a,b,by omega,d⟩⟩
theorem YG {l i j ps} (h:H0 l i j ps) (hi:i < l.length) (hj:j < (l[i]).2.2.1.length):H0 l i (j+1) (ps++[((i:Int),(j:Int))]):=by
 refine ⟨List.pairwise_append.2 ⟨h.1,List.pairwise_singleton _ _,fun a ha b hb=>?_⟩,fun p L=>?_⟩
 ·rw [List.mem_singleton] at hb;subst hb;obtain ⟨h1,h2,h3,_⟩:=h.2 a ha;rcases h3 with h3|⟨h3,h4⟩
  ·exact .inl h3
  ·exact .inr ⟨h3,h4⟩
 ·rcases List.mem_append.1 L with L|L
  ·obtain ⟨a,b,c,d⟩:=h.2 p L;exact ⟨a,b,by omega,d⟩
  ·rw [List.mem_singleton] at L;subst L;refine ⟨by show (0:Int)≤(i:Int);omega,by show (0:Int)≤(j:Int);omega,.inr ⟨rfl,by show (j:Int) < ((j+1:Nat):Int);omega⟩,l[i],?_,by show (j:Int) < _;omega⟩;show l[((i:Int)).toNat]? = _;rw [Int.toNat_natCast,List.getElem?_eq_getElem hi]
theorem iD {S} {a b:Nat} (ha:a≤1000) (hb:b≤1000):RL S [.int .i64 (a:Int),.int .i64 (b:Int)] [((a:Int),(b:Int))]:=RL.one_mk (x:=(((a:Int),(b:Int)):Int×Int)) (by refine ⟨rfl,⟨rfl,?_⟩,⟨rfl,?_⟩⟩<;>(show Au _;unfold Au;omega))
set_option maxRecDepth 20000 in
theorem i6 {S M} (w) (V:St S M w) (vl l) (hl:RSl S vl l) (hm:l.length≤1000) (hp8:∀ e∈l,e.2.2.1.length≤8) (pk:UInt32):
  Ac prog 17 [vl,.int .u32 (pk.toNat:Int)] w fun v w'=>∃ S' so,∃ ps:List (Int×Int),S.Le S'∧v=Ar so∧RSl S' (Ar so) ps∧H0 l l.length 0 ps∧ps.length≤8 * l.length∧St S' M w':=by
 unfold Ac;go_enter func17,ntmps17;replace V:=V.nil 57 2;repeat' (first|(apply O ();go_step)|apply sY ()|fail)
 go_loopw [1,5,11] (fun u1 u5 u11 wr=>∃ (i n:Nat) (pk:UInt32) (T:Ad) (ao:Option Addr) (ko:Nat) (co:List Value) (ps:List (Int×Int)),i≤l.length∧n≤8 * i∧S.Le T∧u1=.int .u32 (pk.toNat:Int)∧u5=.slice ao n ko∧u11=.int .i64 (i:Int)∧Hid (H0 l i 0 ps)∧Hid (n=ps.length)∧RL T co ps∧St T (.sl (.slice ao n ko) 57 2 n co::M) wr) (fun _ _ v _=>l.length - (intOf v).toNat)
 case atStart=>exact ⟨0,0,pk,S,none,0,[],[],Nat.zero_le _,by omega,Ad.Le.refl S,rfl,rfl,rfl,Lib.hid bQ,Lib.hid rfl,RL.nil,V⟩
 case round =>
  clear V;obtain ⟨i,n,pk,T,ao,ko,co,ps,hi2,hn8,hT,rfl,rfl,rfl,HP,HN,hC,V⟩:=hrel;have hone:=BE (k:=0) V rfl;have hl:=hl.mono hT;by_cases hlt:i < l.length
  ·have hpl:=hp8 _ (List.getElem_mem hlt);repeat' ((apply ZZ 5);first|(apply tS ();refine I4 V rfl N.h X Ak Y rfl rfl ?_;clear V;intro w V<;>apply nZ ()<;>(try replace V:=nH V))|(apply O ();go_step)|(apply tL ();refine An V (Aw X Ak Y) ?_;rintro v ⟨cl,rfl,hcl⟩<;>apply nZ ())|(apply sJ ();intro v L)|(apply sZ ();clear V;intro bk w V)|fail)
   have hst0:=V;clear V;obtain ⟨S3,hS3,V,hpv⟩:=AC (α:=Ev) hst0 hcl (Z.len hcl);clear hst0 hcl;generalize Value.pointer (some ⟨bk,0,none⟩)=pV at *;replace hC:=hC.mono hS3;repeat' ((apply ZZ 6);first|(apply O ();go_step)|(apply tL ();refine An V (Aj X Ak Y) ?_;rintro v ⟨hvl,hv1⟩<;>apply nZ ())|apply sY ()|(apply sJ ();intro v L)|fail)
   go_loopw [1,5,19] (fun u1 u5 u19 wr=>∃ (j n:Nat) (pk:UInt32) (ao:Option Addr) (ko:Nat) (co:List Value) (ps:List (Int×Int)),j≤(l[i]).2.2.1.length∧n≤8 * i+j∧u1=.int .u32 (pk.toNat:Int)∧u5=.slice ao n ko∧u19=.int .i64 (j:Int)∧Hid (H0 l i j ps)∧Hid (n=ps.length)∧RL S3 co ps∧St S3 (.sl (.slice ao n ko) 57 2 n co::M) wr) (fun _ _ v _=>(l[i]).2.2.1.length - (intOf v).toNat)
   case atStart=>exact ⟨0,n,pk,ao,ko,co,ps,Nat.zero_le _,by omega,rfl,rfl,rfl,HP,HN,hC,V⟩
   case round =>
    clear V HP HN hC hone;rename_i i0 hlt0;obtain ⟨j,n,pk,ao,ko,co,ps,hj2,hn8,rfl,rfl,rfl,HP,HN,hC,V⟩:=hrel;have hone:=BE (k:=0) V rfl;by_cases hjl:j < (l[i]).2.2.1.length
    ·obtain ⟨z,hz⟩:∃ z,(bits .and .u32 (((shr pk (n % 32)).toNat:Int)) 1 == 1)=z:=⟨_,rfl⟩
     have hsn:=Lib.hid (YG HP.out hlt hjl);have hmo:=Lib.hid (YI HP.out)
     cases z with
     | true =>
      repeat' (first|(apply tB ();refine Ag V (by exact IF rfl rfl Af) ?_<;>apply nZ ())|(apply tU ();refine Ag V (by exact OV Y Y Y rfl rfl (by simp only [List.map_cons,List.map_nil,Ai,AV];rfl) (by simp [Value.cells])) ?_<;>apply nZ ())|apply sK ()|(apply O ();go_step)|apply sY ()|fail)
      refine Ay (vs:=[(.agg #[.int .i64 (i:Int),.int .i64 (j:Int)])]) V Y Y rfl rfl (by simp [Value.cells]) rfl (by omega) (by omega) ?_;clear V;intro u w V;refine nY ?_;refine AF (j:=0) V X X SlIn.h rfl Y Y Y (by simp [Value.cells,Value.oneCell']) (by omega) (by omega) (by decide) ?_;clear V;intro v' w V;refine nY ?_;(try replace V:=nH V);replace V:=V.drop;obtain ⟨ay,cy,hso⟩:=Go.Sl.sl_formk (k:=0) V rfl;subst hso;apply nZ ();repeat' (first|(apply O ();go_step)|fail)
      go_roundw
      case rel=>exact ⟨j+1,n+1,pk,ay,cy,_,ps++[((i:Int),(j:Int))],by omega,by omega,rfl,rfl,by go_num,hsn,Lib.hid (by rw [List.length_append,← HN.out];rfl),hC.append (iD (by omega) (by omega)),V.sub⟩
      case measure=>simp [intOf];omega
     | false =>
      repeat' (first|(apply tB ();refine Ag V (by first|exact N6 rfl rfl|exact Mt rfl rfl Af|exact IF rfl rfl Af) ?_<;>apply nZ ())|apply sK ()|(apply O ();go_step)|apply sY ()|fail)
      go_roundw
      case rel=>exact ⟨j+1,n,_,ao,ko,co,ps,by omega,by omega,rfl,rfl,by go_num,hmo,HN,hC,V.sub⟩
      case measure=>simp [intOf];omega
    ·obtain rfl:j=(l[i]).2.2.1.length:=by omega
     repeat' (first|(apply O ();go_step)|fail)
     go_roundw
     case rel=>exact ⟨i+1,n,pk,S3,ao,ko,co,ps,by omega,by omega,hT.trans hS3,rfl,rfl,by go_num,Lib.hid (YH HP.out),HN,hC,V.sub⟩
     case measure=>simp [intOf];omega
  ·obtain rfl:i=l.length:=by omega
   obtain ⟨S2,hS2,hst2,hx⟩:=St.freeze (α:=Int×Int) V hC HN.out;have hps:=HP.out;have hnn:=HN.out;clear V;have V:=hst2;clear hst2;repeat' (first|(apply O ();go_step)|fail)
   go_ret;exact ⟨_,rfl,S2,(ao,n,ko),ps,hT.trans hS2,rfl,hx,hps,by omega,V⟩
end Go.Proofs.YtmmbidoldegemaaGreatDoor
