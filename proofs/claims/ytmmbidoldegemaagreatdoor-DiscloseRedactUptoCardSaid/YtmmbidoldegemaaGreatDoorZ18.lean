/- Part 19 of a proof; no conditions. -/
import Derived.Lib.SliceRun
import Derived.Deep.LoopGhost
import Derived.Test.YtmmbidoldegemaaGreatDoorZ17
set_option linter.all false
set_option maxRecDepth 8000
set_option maxHeartbeats 8000000
namespace Go.Proofs.YtmmbidoldegemaaGreatDoor
open Go.RowKit Go.Sl
def Oy (np:Nat) (p:Int×Int):Prop:=p=(-1,0)∨(0≤p.1∧p.1 < np∧(p.2=1∨p.2=2))
theorem LW {nodes:List IZ} {np:Nat}:∀ (f:Nat) (k:Int) (ar:Int×Int) (s:Gr),Oy np ar→s.out.length=np∧(∀ p∈s.out,Oy np p) →
  (Ec nodes f k ar s).out.length=np∧∀ p∈(Ec nodes f k ar s).out,Oy np p
 | 0,_,_,_,_,h=>h
 | f+1,k,ar,s,ha,h=>by
  unfold Ec;split
  ·exact h
  ·rename_i nd hg;refine DW (p:=fun s:Gr=>s.out.length=np∧∀ p∈s.out,Oy np p) (fun t i ht=>LW f _ _ t ?_ ht) _ _ ?_
   ·have L:Ck nd s=true→0≤nd.2.1∧nd.2.1 < np:=fun e=>by
     simp only [Ck,Bool.and_eq_true,decide_eq_true_eq,h.1] at e;exact ⟨e.2.1,e.2.2.1⟩
    unfold GC;split
    ·rename_i c;exact .inr ⟨(L c.1).1,(L c.1).2,.inr rfl⟩
    ·split
     ·rename_i c;exact .inr ⟨(L c.1).1,(L c.1).2,.inl rfl⟩
     ·exact ha
   ·unfold Proofs.YtmmbidoldegemaaGreatDoor.enter;split
    ·refine ⟨by simpa using h.1,fun p L=>?_⟩;rcases List.mem_or_eq_of_mem_set L with L|rfl
     ·exact h.2 p L
     ·exact ha
    ·exact h
theorem Uq (nodes root pts):(BM nodes root pts).length=CL pts∧∀ p∈BM nodes root pts,Oy (CL pts) p :=
 LW (nodes.length+1) root (-1,0) _ (.inl rfl) ⟨by simp,fun p L=>.inl (List.eq_of_mem_replicate L)⟩
theorem Ac.eq {P f args w S M b c} (h:Ac P f args w fun v w'=>v=.bool b∧St S M w') (e:b=c):
  Ac P f args w fun v w'=>v=.bool c∧St S M w':=e▸h
end Go.Proofs.YtmmbidoldegemaaGreatDoor
namespace Go.Proofs.YtmmbidoldegemaaGreatDoor
open Go.RowKit Go.Sl Go.Proofs.Tryz
theorem KW {P T E T2 l x y S M a n c n' c'} (hx:Ai l x=.slice a n c) (hy:Ai l y=.slice none n' c') (hT:SlT P T E):
  Qt P l (.binOp .eql T x y T2) S M (.bool a.isNone):=fun dst ty pos af w V=>by
 apply gU ()
theorem bJ {S c xs} (h:RL S c xs):c=cF Ba xs:=by
 have hl:c.length=xs.length:=by simpa using (show c.length=xs.length * 1 from h.1)
 refine List.ext_getElem (by rw [hl,FX (f:=Ba) (z:=1) (fun _=>rfl)];simp) fun i h1 h2=>?_
 have hi:i < xs.length:=by omega
 obtain ⟨e,_⟩:=h.2 i _ (List.getElem?_eq_getElem hi);have e:(c.drop (i * 1)).take 1=[.int .i64 xs[i]]:=e;have e':((cF Ba xs).drop (i * 1)).take 1=[.int .i64 xs[i]]:=JV (f:=Ba) (z:=1) (fun _=>rfl) xs i hi;have a1:=congrArg (·[0]?) e;have a2:=congrArg (·[0]?) e';simp at a1 a2;rw [List.getElem?_eq_getElem h1] at a1;rw [List.getElem?_eq_getElem h2] at a2;exact (Option.some.inj a1).trans (Option.some.inj a2).symm
set_option maxRecDepth 20000 in
theorem ZK {S M} (w) (V:St S M w) (v xs) (hv:RSl S v xs) (hm:xs.length≤1048576):
  Ac prog 88 [v] w fun u w'=>St S (.sl u 3 1 xs.length (cF Ba xs)::M) w':=by
 unfold Ac;have hv':=hv;rcases hv with ⟨ad,cap,rfl,rfl,_⟩|⟨b,o,cap,c,T,fz,rfl,_,_,_,_⟩
 ·cases ad with
  | none =>
   go_enter func88,ntmps88;repeat' (first|(apply tB ();refine Ag V (KW rfl rfl (by infer_instance)) ?_;simp only [Option.isNone_none,Option.isNone_some];apply nW ())|(apply O ();go_step)|fail)
   go_ret;exact ⟨_,rfl,V.nil 3 1⟩
  | some a =>
   go_enter func88,ntmps88;repeat' (first|(apply tB ();refine Ag V (KW rfl rfl (by infer_instance)) ?_;simp only [Option.isNone_none,Option.isNone_some];apply nW ())|(apply O ();go_step)|fail)
   apply j8 ()
 ·go_enter func88,ntmps88;repeat' (first|(apply tB ();refine Ag V (KW rfl rfl (by infer_instance)) ?_;simp only [Option.isNone_none,Option.isNone_some];apply nW ())|(apply O ();go_step)|fail)
  apply j8 ()
set_option maxRecDepth 20000 in
theorem Ia {S M} (w q s) (hq:Au q) (hs:Au s) (vt took) (V:St S (.sl vt 3 1 took.length (cF Ba took)::M) w) (h:(q = -1∧s=0)∨(0≤q∧q.toNat < took.length)):
  Ac prog 89 [.agg #[.int .i64 q,.int .i64 s],vt] w fun v w'=>v=.bool (Ib q s took)∧St S (.sl vt 3 1 took.length (cF Ba took)::M) w':=by
 unfold Ac;have h1:Au (-1):=by unfold Au;omega
 have h0:Au 0:=by unfold Au;omega
 by_cases he:((q,s)=((-1:Int),(0:Int)))
 ·obtain ⟨rfl,rfl⟩:q = -1∧s=0:=by simpa using he
  go_enter func89,ntmps89;repeat' (first|(apply O ();go_step)|(apply sB ();clear V;intro bx w V)|fail)
  refine Fv V kr kr ?_
  repeat (((first|(with_reducible refine Sl.kq_load ?_;(refine CJ (AT rfl _ N.h Y rfl rfl) ?_))|(with_reducible refine Sl.kq_call ?_;((refine JQ (fun w V=>FT w V) Y rfl ?_)))|(refine Sl.kq_plain rfl ?_;((refine CJ (JP rfl rfl (Df hq hs) (Df h1 h0) Y Y Y) ?_))))<;>apply nW ()))
  refine G5 ?_;clear V;intro w V;repeat' (first|(apply O ();go_step)|fail)
  go_ret;exact ⟨_,rfl,rfl,V.drop⟩
 ·have he':decide ((q,s)=((-1:Int),(0:Int)))=false:=decide_eq_false he;obtain ⟨hq0,hql⟩:0≤q∧q.toNat < took.length:=h.resolve_left (by rintro ⟨rfl,rfl⟩;exact he rfl)
  have hsh:Ib q s took=(took[q.toNat] != -1 && (bits .and .i64 took[q.toNat] s == 0)):=by
   unfold Ib;rw [if_neg (by rintro ⟨rfl,rfl⟩;exact he rfl)];simp [List.getD,List.getElem?_eq_getElem hql]
  have Hsh:=Lib.hid hsh;clear hsh;by_cases hb:(took[q.toNat] != -1)=true
  ·have Hb:=Lib.hid hb;go_enter func89,ntmps89;repeat' (first|(apply O ();go_step)|(apply sB ();clear V;intro bx w V)|fail)
   refine Fv V kr kr ?_
   repeat (((first|(with_reducible refine Sl.kq_load ?_;(refine CJ (AT rfl _ N.h Y rfl rfl) ?_))|(with_reducible refine Sl.kq_call ?_;((refine JQ (fun w V=>FT w V) Y rfl ?_)))|(refine Sl.kq_plain rfl ?_;((refine CJ (JP rfl rfl (Df hq hs) (Df h1 h0) Y Y Y) ?_))))<;>apply nW ()))
   refine G5 ?_;clear V;intro w V;repeat' (first|(apply tI ();refine Ag V (A6 rfl rfl Y Y Af Af) ?_<;>apply nW ())|(apply tI ();refine An V (Ao V X SlIn.h rfl Y Y Af Af) ?_;rintro v L;(try simp only [Int.toNat_natCast,Int.toNat_natCast_add_one,Int.reduceToNat] at L)<;>apply nW ())|apply sG ()|(apply O ();go_step)|(apply tL ();refine Ag V (by exact KV X Ak SlIn.h Y Af) ?_<;>apply nW ())|apply sX ()|fail)
   go_ret;exact ⟨_,rfl,by rw [Hsh.out,Hb.out];rfl,V.drop⟩
  ·have hb':(took[q.toNat] != -1)=false:=by simpa using hb
   have Hb:=Lib.hid hb';clear hb;go_enter func89,ntmps89;repeat' (first|(apply O ();go_step)|(apply sB ();clear V;intro bx w V)|fail)
   refine Fv V kr kr ?_
   repeat (((first|(with_reducible refine Sl.kq_load ?_;(refine CJ (AT rfl _ N.h Y rfl rfl) ?_))|(with_reducible refine Sl.kq_call ?_;((refine JQ (fun w V=>FT w V) Y rfl ?_)))|(refine Sl.kq_plain rfl ?_;((refine CJ (JP rfl rfl (Df hq hs) (Df h1 h0) Y Y Y) ?_))))<;>apply nW ()))
   refine G5 ?_;clear V;intro w V;repeat' (first|go_skip|(apply tI ();refine Ag V (A6 rfl rfl Y Y Af Af) ?_<;>apply nW ())|(apply tI ();refine An V (Ao V X SlIn.h rfl Y Y Af Af) ?_;rintro v L;(try simp only [Int.toNat_natCast,Int.toNat_natCast_add_one,Int.reduceToNat] at L)<;>apply nW ())|(apply O ();go_step)|(apply tL ();refine Ag V (by exact KV X Ak SlIn.h Y Af) ?_<;>apply nW ())|apply sX ()|fail)
   go_ret;exact ⟨_,rfl,by rw [Hsh.out,Hb.out];rfl,V.drop⟩
def Hq (en:List (Int×Int)) (o:List Int) (i:Nat):Bool:=Ib (en.getD i (-1,0)).1 (en.getD i (-1,0)).2 o
def GB (en:List (Int×Int)) (t:List Int×Bool) (i:Nat):List Int×Bool:=if t.1.getD i 0 == -1 && Hq en t.1 i then (t.1.set i 0,true) else t
def looks (en:List (Int×Int)) (o:List Int) (n:Nat):List Int×Bool:=(List.range n).foldl (GB en) (o,false)
def C4 (en:List (Int×Int)):Nat→List Int→List Int
 | 0,o=>o
 | f+1,o=>if (looks en o o.length).2 then C4 en f (looks en o o.length).1 else (looks en o o.length).1
def bad (en:List (Int×Int)) (o:List Int) (i:Nat):Bool:=decide (o.getD i 0 > 0) && Hq en o i
def DS (en:List (Int×Int)) (took:List Int):Option (List Int) :=
 if Gs took en.length (-1) then
  let o:=C4 en (took.length+1) took
  if (List.range o.length).any (bad en o) then none else some o
 else none
theorem Ik (en o n):looks en o (n+1)=GB en (looks en o n) n:=by simp [looks,List.range_succ,List.foldl_append]
theorem Qk (en o n):(looks en o n).1.length=o.length :=
 DW (p:=fun t:List Int×Bool=>t.1.length=o.length) (fun t i h=>by unfold GB;split;simpa using h;exact h) _ _ rfl
theorem Ut {l:List Int} {k} (h:l.getD k 0 = -1):(l.set k 0).count (-1)+1=l.count (-1):=by
 induction l generalizing k with
 | nil=>simp at h
 | cons b l ih =>
  cases k with
  | zero=>simp at h;subst h;simp
  | succ k =>
        have h:l.getD k 0 = -1:=by simpa using h
        have:=ih h;simp only [List.set_cons_succ,List.count_cons];omega
def DJ (o:List Int):Nat:=o.count (-1)
theorem G8 (en:List (Int×Int)) (o:List Int):∀ n,DJ (looks en o n).1+(if (looks en o n).2 then 1 else 0)≤DJ o
 | 0=>by simp [looks]
 | n+1=>by
  have ih:=G8 en o n;rw [Ik];unfold GB;split
  ·rename_i h;simp only [Bool.and_eq_true,beq_iff_eq] at h;have:=Ut h.1;simp only [DJ] at *;simp only [if_true];omega
  ·exact ih
def Z7 (out:List (Int×Int)) (found:List Bool):Nat→Int→Prop
 | 0,m=>m = -1
 | d+1,m=>m = -1∨(0≤m∧m.toNat < out.length∧found.getD m.toNat false=true∧Z7 out found d (out.getD m.toNat (-1,0)).1)
def nN (s:Gr) (x:Int):Prop:=Z7 s.out s.found (s.found.count true) x
structure nO (np:Nat) (s:Gr):Prop where
 out:s.out.length=np
 found:s.found.length=np
 yes:∀ m < np,s.found.getD m false=true→nN s m
 no:∀ m < np,s.found.getD m false=false→s.out.getD m (-1,0)=(-1,0)
def NR (h o:List Int):Prop:=o.length=h.length∧∀ i,h.getD i 0≠-1→o.getD i 0=h.getD i 0
theorem Wv {l:List Int} {i j}:(l.set i 0).getD j 0=if i=j then 0 else l.getD j 0:=by
 by_cases h:i=j
 ·subst h;simp only [List.getD_eq_getElem?_getD,List.getElem?_set,if_true];split<;>rfl
 ·simp [List.getD_eq_getElem?_getD,List.getElem?_set_ne h,h]
theorem TY {en h x} (hk:NR h x.1) (i):NR h (GB en x i).1:=by
 unfold GB;split
 ·rename_i hc;simp only [Bool.and_eq_true,beq_iff_eq] at hc;refine ⟨by simpa using hk.1,fun j hj=>?_⟩;simp only [Wv];split
  ·rename_i hij;subst hij;exact absurd (hk.2 i hj▸hc.1) hj
  ·exact hk.2 j hj
 ·exact hk
theorem Nt {en} {p:List Int→Prop} (L:∀ x i,p x.1→p (GB en x i).1) {o} (h:p o) (n):p (looks en o n).1 :=
 DW (p:=fun t:List Int×Bool=>p t.1) (fun t i ht=>L t i ht) _ _ h
theorem Js {en:List (Int×Int)} {p:List Int→Prop} (L:∀ x i,p x.1→p (GB en x i).1):∀ (f:Nat) {o:List Int},p o→p (C4 en f o)
 | 0,_,h=>h
 | f+1,o,h=>by
  unfold C4;split
  ·exact Js L f (Nt L h _)
  ·exact Nt L h _
theorem Mc {en:List (Int×Int)} {o:List Int}:∀ {n:Nat},(looks en o n).2=false→(looks en o n).1=o∧∀ i < n,¬ (o.getD i 0 = -1∧Hq en o i=true)
 | 0,_=>⟨rfl,fun i hi=>by omega⟩
 | n+1,h=>by
  rw [Ik] at h ⊢;unfold GB at h ⊢;split at h
  ·cases h
  ·rename_i hc;obtain ⟨h1,h2⟩:=Mc h;rw [if_neg hc];refine ⟨h1,fun i hi=>?_⟩;rcases Nat.lt_succ_iff_lt_or_eq.1 hi with hi|rfl
   ·exact h2 i hi
   ·rw [h1] at hc
    simpa using hc
def SQ (en:List (Int×Int)) (o:List Int):Prop:=(looks en o o.length).2=false
theorem JH {en:List (Int×Int)}:∀ (f:Nat) (o:List Int),DJ o < f→SQ en (C4 en f o)
 | 0,_,h=>by omega
 | f+1,o,h=>by
  unfold C4;have hc:=G8 en o o.length;split
  ·rename_i hb;rw [hb] at hc;simp only [if_true] at hc;exact JH f _ (by omega)
  ·rename_i hb;have hb':(looks en o o.length).2=false:=by simpa using hb
   rw [(Mc hb').1];exact hb'
theorem OC {took} {n:Nat} {least}:Gs took n least=true↔took.length=n∧∀ x∈took,least≤x∧x≤3:=by
 simp only [Gs,Bool.and_eq_true,decide_eq_true_eq,Bool.not_eq_true',List.any_eq_false,Bool.or_eq_true];constructor
 ·rintro ⟨h,h2⟩;exact ⟨by omega,fun x hx=>by have:=h2 x hx;omega⟩
 ·rintro ⟨h,h2⟩;exact ⟨by omega,fun x hx=>by have:=h2 x hx;omega⟩
theorem LX (o):DJ o < o.length+1:=by
 have:=List.count_le_length (a:=(-1:Int)) (l:=o);unfold DJ;omega
theorem Uf {en h o}:DS en h=some o↔(h.length=en.length∧∀ x∈h,-1≤x∧x≤3)∧o=C4 en (h.length+1) h∧∀ i < o.length,¬ (o.getD i 0 > 0∧Hq en o i=true):=by
 unfold DS;by_cases hv:Gs h en.length (-1)=true
 ·rw [if_pos hv];have hv':=OC.1 hv;by_cases hb:(List.range (C4 en (h.length+1) h).length).any (bad en (C4 en (h.length+1) h))=true
  ·simp only [hb,if_true];constructor
   ·intro e;cases e
   ·rintro ⟨_,rfl,h3⟩;rw [List.any_eq_true] at hb;obtain ⟨i,hi,hbi⟩:=hb;simp only [bad,Bool.and_eq_true,decide_eq_true_eq] at hbi;exact absurd hbi (h3 i (List.mem_range.1 hi))
  ·have hb':=hb;simp only [hb',if_false,Bool.false_eq_true];constructor
   ·intro e;obtain rfl:=Option.some.inj e;refine ⟨hv',rfl,fun i hi hx=>hb ?_⟩;rw [List.any_eq_true];exact ⟨i,List.mem_range.2 hi,by simp only [bad,Bool.and_eq_true,decide_eq_true_eq];exact hx⟩
   ·rintro ⟨_,rfl,_⟩;rfl
 ·rw [if_neg hv];constructor
  ·intro e;cases e
  ·rintro ⟨h1,_⟩;exact absurd (OC.2 h1) hv
def fill (o:List Int):List Int:=o.map fun x=>if x = -1 then 3 else x
theorem Pm {en took o} (h:DS en took=some o):SQ en o∧NR took o∧(o.length=en.length∧∀ x∈o,-1≤x∧x≤3)∧∀ i < o.length,¬ (o.getD i 0 > 0∧Hq en o i=true):=by
 obtain ⟨⟨h1,h2⟩,rfl,h3⟩:=Uf.1 h;have hk:NR took (C4 en (took.length+1) took):=Js (p:=fun o=>NR took o) (fun x i=>fun hx=>TY hx i) _ ⟨rfl,fun _ _=>rfl⟩;refine ⟨JH _ _ (LX _),hk,⟨hk.1.trans h1,?_⟩,h3⟩;refine Js (p:=fun o=>∀ x∈o,-1≤x∧x≤3) (fun x i hx=>?_) _ h2;unfold GB;split
 ·intro y hy;rcases List.mem_or_eq_of_mem_set hy with hy|rfl
  ·exact hx y hy
  ·omega
 ·exact hx
def O8 (S:Ad) (M:List J) (r:Option (List Int)) (v:Value) (w:World):Prop :=
 match r with
 | none=>v=.tuple #[.slice none 0 0,.bool false]∧St S M w
 | some o=>∃ u,v=.tuple #[u,.bool true]∧St S (.sl u 3 1 o.length (cF Ba o)::M) w
theorem St.swap {S a b M w} (h:St S (a::b::M) w):St S (b::a::M) w:=h.perm (List.Perm.swap _ _ _)
theorem SC {np} {en:List (Int×Int)} (hl:np=en.length) (hes:∀ p∈en,Oy np p) (hnp:np≤8) {i:Nat} (h n) (hn:n=np):
  Au en[i].1∧Au en[i].2∧((en[i].1 = -1∧en[i].2=0)∨(0≤en[i].1∧en[i].1.toNat < n)):=by
 rcases hes _ (List.getElem_mem h) with e|⟨e1,e2,e3⟩
 ·rw [e];exact ⟨by unfold Au;omega,by unfold Au;omega,.inl ⟨rfl,rfl⟩⟩
 ·exact ⟨by unfold Au;omega,by unfold Au;omega,.inr ⟨e1,by omega⟩⟩
theorem Jt {en:List (Int×Int)}:∀ (f g:Nat) {o:List Int},DJ o < f→DJ o < g→C4 en f o=C4 en g o
 | 0,_,_,h,_=>by omega
 | _,0,_,_,h=>by omega
 | f+1,g+1,o,h,h'=>by
  unfold C4;have hc:=G8 en o o.length;split
  ·rename_i hb;rw [hb] at hc;simp only [if_true] at hc;exact Jt f g (by omega) (by omega)
  ·rfl
theorem Y5 {en x i} (h) (he:i < en.length) (h1:x.1[i] = -1) (h2:Ib en[i].1 en[i].2 x.1=true):GB en x i=(x.1.set i 0,true):=by
 have e:en.getD i (-1,0)=en[i]:=by simp [List.getD,List.getElem?_eq_getElem he]
 unfold GB Hq;rw [Ko h,e,h1,h2];rfl
theorem Si {en x i} (h) (he:i < en.length) (h1:¬ (x.1[i] = -1∧Ib en[i].1 en[i].2 x.1=true)):GB en x i=x:=by
 have e:en.getD i (-1,0)=en[i]:=by simp [List.getD,List.getElem?_eq_getElem he]
 unfold GB Hq;rw [Ko h,e,if_neg]
 simpa using h1
theorem gL {en o i} (h) (he:i < en.length):bad en o i=(decide (o[i] > 0) && Ib en[i].1 en[i].2 o):=by
 have e:en.getD i (-1,0)=en[i]:=by simp [List.getD,List.getElem?_eq_getElem he]
 unfold bad Hq;rw [Ko h,e]
set_option maxRecDepth 20000 in
theorem dB {S M} (w) (V:St S M w) (vi vn root pts) (ins:List (Cv×Int×Int×Int×Unit)) (nodes) (hi:RSl S vi ins) (hn:RSl S vn nodes) (hnn:nodes.length≤140737488355328) (hr:Au root) (L:Au pts) (vt took) (ht:RSl S vt took) (hm:took.length≤1048576):
  Ac prog 48 [.agg #[vi,vn,.int .i64 root,.int .i64 pts],vt] w fun v w'=>O8 S M (DS (BM nodes root pts) took) v w':=by
 unfold Ac;have h1:=hi.oneCell;have h2:=hn.oneCell;obtain ⟨hel,hes⟩:=Uq nodes root pts;have hnp:CL pts≤8:=by unfold CL;omega
 have hm2:took.length≤9223372036854775807:=by omega
 cases hv:Gs took (BM nodes root pts).length (-1) with
 | false =>
  go_enter func48,ntmps48;repeat' (first|(apply O ();go_step)|(apply kc ();refine sc (Mh w V vi vn root pts ins nodes hi hn hnn hr L) ?_;clear V;rintro v w ⟨S',hle,hen,V⟩)|apply sX ()|(apply sB ();clear V;intro bx w V)|fail)
  have ht':=ht.mono hle;repeat' (first|(apply O ();go_step)|(apply kc ();refine sc (Ac.eq (RJ w V _ took ht' hm2 _ (-1)) hv) ?_;clear V;rintro v w ⟨rfl,V⟩)|fail)
  go_ret2
  have hx:DS (BM nodes root pts) took=none:=by unfold DS;rw [hv];rfl
  rw [hx];exact ⟨_,rfl,rfl,(V.weaken hle).drop⟩
 | true =>
  have hlen:took.length=(BM nodes root pts).length:=by
   simp only [Gs,Bool.and_eq_true,decide_eq_true_eq] at hv;omega
  have Hv:=Lib.hid hv;clear hv;go_enter func48,ntmps48;repeat' (first|(apply O ();go_step)|(apply kc ();refine sc (Mh w V vi vn root pts ins nodes hi hn hnn hr L) ?_;clear V;rintro v w ⟨S',hle,hen,V⟩)|apply sX ()|(apply sB ();clear V;intro bx w V)|fail)
  have ht':=ht.mono hle;repeat' (first|(apply O ();go_step)|(apply kc ();refine sc (Ac.eq (RJ w V _ took ht' hm2 _ (-1)) Hv.out) ?_;clear V;rintro v w ⟨rfl,V⟩)|(apply kc ();refine sc (ZK w V vt took ht' hm) ?_;clear V;rintro v w V)|fail)
  have hu:=AY V;rename Value=>u
  go_loopg [8] (DJ took+2) (fun k v wr=>∃ (o:List Int) (b:Bool),v=.bool b∧Hid (o.length=took.length∧(if b then C4 (BM nodes root pts) (DJ o+1) o=C4 (BM nodes root pts) (took.length+1) took∧DJ o+1 < k else o=C4 (BM nodes root pts) (took.length+1) took)) ∧
   St S' (.sl u 3 1 took.length (cF Ba o)::.box bx [vi,vn,.int .i64 root,.int .i64 pts] 87::M) wr)
  case atStart=>exact ⟨took,true,rfl,⟨rfl,by simp only [if_true];exact ⟨Jt _ _ (by omega) (LX _),by omega⟩⟩,V⟩
  case round =>
   clear V;obtain ⟨o,b,rfl,Ho,V⟩:=hrel
   cases b with
   | true =>
    have hol:=Ho.out.1;repeat' (first|(apply O ();go_step)|apply sX ()|fail)
    go_loopw [8,25] (fun v v2 wr=>∃ i:Nat,i≤took.length∧v2=.int .i64 i∧v=.bool (looks (BM nodes root pts) o i).2 ∧
     St S' (.sl u 3 1 took.length (cF Ba (looks (BM nodes root pts) o i).1)::.box bx [vi,vn,.int .i64 root,.int .i64 pts] 87::M) wr) (fun _ v _=>took.length - (intOf v).toNat)
    case atStart=>exact ⟨0,Nat.zero_le _,rfl,rfl,V⟩
    case round =>
     clear V;obtain ⟨i,hi',rfl,rfl,V⟩:=hrel;have hli:(looks (BM nodes root pts) o i).1.length=took.length:=(Qk _ _ _).trans hol;by_cases hlt:i < took.length
     ·have hlt2:i < (BM nodes root pts).length:=by omega
      obtain ⟨hq,hs,hsh⟩:=SC hel.symm hes hnp hlt2 (looks (BM nodes root pts) o i).1.length (by omega);have hli2:i < (looks (BM nodes root pts) o i).1.length:=by omega
      repeat' (first|apply sG ()|(with_reducible refine Sl.k_guard ?_;refine Sl.guard_cases rfl ?_ ?_<;>intro hg<;>(simp only [hg,Bool.not_true,Bool.not_false])<;>apply nW ())|(apply tI ();(first|refine An V (Aq X Ak rfl Y Y Af Af) ?_|refine An V (Ao V X SlIn.h rfl Y Y Af Af) ?_);rintro v L;(try simp only [Int.toNat_natCast,Int.toNat_natCast_add_one,Int.reduceToNat] at L)<;>apply nW ())|(apply O ();go_step)|(apply tL ();refine Ag V (by exact KV X Ak SlIn.h Y Af) ?_<;>apply nW ())|(apply sD ();intro cl hcl)|fail)
      ·obtain ⟨c1,c2,e,⟨rfl,_⟩,⟨rfl,_⟩⟩:=E5 (x:=(BM nodes root pts)[i].1) (y:=(BM nodes root pts)[i].2) hcl;subst e
       cases hsb:Ib (BM nodes root pts)[i].1 (BM nodes root pts)[i].2 (looks (BM nodes root pts) o i).1 with
       | true =>
        have hlk:=Lib.hid (Y5 hli2 hlt2 (by simpa using hg) hsb);have c:=Ac.eq (Ia _ _ _ hq hs u _ (by rw [hli];exact V) hsh) hsb;refine BG c (by infer_instance) rfl ?_;clear V c;rintro v' w ⟨rfl,V⟩;rw [hli] at V;refine nX ?_;repeat' (first|(apply tI ();(refine An V (Ao V X SlIn.h rfl Y Y Af Af) ?_);rintro v L;(try simp only [Int.toNat_natCast,Int.toNat_natCast_add_one,Int.reduceToNat] at L)<;>apply nW ())|(apply tS ();refine Tu V X Ak SlIn.h Y X Af ?_;clear V;intro w V<;>apply nW ()<;>(try replace V:=nH V))|(apply O ();go_step)|fail)
        go_roundw
        case rel =>
         apply gP ()
        case measure=>simp [intOf];omega
       | false =>
        have hlk:=Lib.hid (Si hli2 hlt2 (fun h=>by rw [hsb] at h;cases h.2));have c:=Ac.eq (Ia _ _ _ hq hs u _ (by rw [hli];exact V) hsh) hsb;refine BG c (by infer_instance) rfl ?_;clear V c;rintro v' w ⟨rfl,V⟩;rw [hli] at V;refine nX ?_;repeat' (first|(apply O ();go_step)|fail)
        go_roundw
        case rel =>
         apply gP ()
        case measure=>simp [intOf];omega
      ·have hlk:=Lib.hid (Si hli2 hlt2 (fun h=>by rw [h.1] at hg;cases hg));go_roundw
       case rel =>
        apply gP ()
       case measure=>simp [intOf];omega
     ·repeat' (first|(apply O ();go_step)|fail)
      have hie:i=o.length:=by omega
      subst hie;have hc:=G8 (BM nodes root pts) o o.length;obtain ⟨_,ho1,ho2⟩:=Ho.out;go_roundg (DJ o+1)
      case measure=>omega
      case rel =>
       refine ⟨(looks (BM nodes root pts) o o.length).1,(looks (BM nodes root pts) o o.length).2,rfl,⟨hli,?_⟩,V⟩;rw [C4] at ho1;split
       ·rename_i hb;rw [if_pos hb] at ho1;rw [hb] at hc;simp only [if_true] at hc;exact ⟨(Jt _ _ (by omega) (by omega)).trans ho1,by omega⟩
       ·rename_i hb;rw [if_neg hb] at ho1;exact ho1
   | false =>
    have hol:=Ho.out.1;repeat' (first|(apply O ();go_step)|apply sX ()|fail)
    go_loopw [46] (fun v wr=>∃ i:Nat,i≤took.length∧v=.int .i64 i∧Hid (∀ j < i,bad (BM nodes root pts) o j=false) ∧
     St S' (.sl u 3 1 took.length (cF Ba o)::.box bx [vi,vn,.int .i64 root,.int .i64 pts] 87::M) wr) (fun v _=>took.length - (intOf v).toNat)
    case atStart=>exact ⟨0,Nat.zero_le _,rfl,fun j h=>by omega,V⟩
    case round =>
     clear V;obtain ⟨i,hi',rfl,Hb,V⟩:=hrel;by_cases hlt:i < took.length
     ·have hlt2:i < (BM nodes root pts).length:=by omega
      obtain ⟨hq,hs,hsh⟩:=SC hel.symm hes hnp hlt2 o.length (by omega);have hlo:i < o.length:=by omega
      have hbad:=Lib.hid (gL hlo hlt2);repeat' (first|apply sG ()|(with_reducible refine Sl.k_guard ?_;refine Sl.guard_cases rfl ?_ ?_<;>intro hg<;>(simp only [hg,Bool.not_true,Bool.not_false])<;>apply nW ())|(apply tI ();(first|refine An V (Aq X Ak rfl Y Y Af Af) ?_|refine An V (Ao V X SlIn.h rfl Y Y Af Af) ?_);rintro v L;(try simp only [Int.toNat_natCast,Int.toNat_natCast_add_one,Int.reduceToNat] at L)<;>apply nW ())|(apply O ();go_step)|(apply tL ();refine Ag V (by exact KV X Ak SlIn.h Y Af) ?_<;>apply nW ())|(apply sD ();intro cl hcl)|fail)
      ·obtain ⟨c1,c2,e,⟨rfl,_⟩,⟨rfl,_⟩⟩:=E5 (x:=(BM nodes root pts)[i].1) (y:=(BM nodes root pts)[i].2) hcl;subst e
       cases hsb:Ib (BM nodes root pts)[i].1 (BM nodes root pts)[i].2 o with
       | true =>
        have Hsb:=Lib.hid hsb;have Hg:=Lib.hid hg;have c:=Ac.eq (Ia _ _ _ hq hs u _ (by rw [hol];exact V) hsh) hsb;refine BG c (by infer_instance) rfl ?_;clear V c hsb;rintro v' w ⟨rfl,V⟩;refine nX ?_;repeat' (first|(apply O ();go_step)|fail)
        go_ret2
        have hx:DS (BM nodes root pts) took=none:=by
         unfold DS;rw [Hv.out,if_pos rfl];have e:C4 (BM nodes root pts) (took.length+1) took=o:=Ho.out.2.symm;simp only [e];rw [if_pos];rw [List.any_eq_true];exact ⟨i,List.mem_range.2 hlo,by rw [hbad.out,Hsb.out];simpa using Hg.out⟩
        rw [hx];exact ⟨_,rfl,rfl,(V.weaken hle).drop.drop⟩
       | false =>
        have Hsb:=Lib.hid hsb;have c:=Ac.eq (Ia _ _ _ hq hs u _ (by rw [hol];exact V) hsh) hsb;refine BG c (by infer_instance) rfl ?_;clear V c hsb;rintro v' w ⟨rfl,V⟩;rw [hol] at V;refine nX ?_;repeat' (first|(apply O ();go_step)|fail)
        go_roundw
        case rel =>
         refine ⟨i+1,by omega,by go_num,fun j hj=>?_,V⟩;rcases Nat.lt_succ_iff_lt_or_eq.1 hj with h|rfl
         ·exact Hb.out j h
         ·rw [hbad.out,Hsb.out];simp
        case measure=>simp [intOf];omega
      ·go_roundw
       case rel =>
        refine ⟨i+1,by omega,by go_num,fun j hj=>?_,V⟩;rcases Nat.lt_succ_iff_lt_or_eq.1 hj with h|rfl
        ·exact Hb.out j h
        ·rw [hbad.out,hg];rfl
       case measure=>simp [intOf];omega
     ·repeat' (first|(apply O ();go_step)|fail)
      go_ret2
      have hx:DS (BM nodes root pts) took=some o:=by
       unfold DS;rw [Hv.out,if_pos rfl];have e:C4 (BM nodes root pts) (took.length+1) took=o:=Ho.out.2.symm;simp only [e];rw [if_neg];rw [List.any_eq_true];rintro ⟨j,hj,hjb⟩;rw [Hb.out j (by have:=List.mem_range.1 hj;omega)] at hjb;cases hjb
      rw [hx];refine ⟨_,rfl,u,rfl,?_⟩;rw [hol];exact (St.swap (V.weaken hle)).drop
end Go.Proofs.YtmmbidoldegemaaGreatDoor
