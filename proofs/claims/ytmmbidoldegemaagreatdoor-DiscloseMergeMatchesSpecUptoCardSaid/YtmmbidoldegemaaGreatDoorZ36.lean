/- Part 37 of the proof that the law of the last part holds; no conditions. -/
import Derived.Test.YtmmbidoldegemaaGreatDoorZ35
set_option linter.unusedSimpArgs false
set_option linter.unusedVariables false
set_option maxRecDepth 8000
set_option maxHeartbeats 8000000
namespace Go.Proofs.YtmmbidoldegemaaGreatDoor
open Go.RowKit Go.Sl
def YE (s:VS) (a:Int):VR→Prop
 | .ok t=>t.fin=s.fin∨t.fin=a
 | .err _=>True
theorem JG {s t:VS} {a v:Int} (h:s.fin=t.fin):YE t a (CO s v):=by
 unfold CO;split
 ·exact .inl h
 ·trivial
theorem X5 {gl:List Int} {points:Int} {i:DS} {s:VS}:YE s i.2.1 (Co gl points i s):=by
 refine IC (m:=YE s i.2.1) ?_ ?_ ?_ ?_ ?_ ?_ ?_ ?_ ?_ ?_ ?_
 ·exact fun _=>JG rfl
 ·intro _;split
  ·exact JG rfl
  ·trivial
 ·intro _;split
  ·trivial
  ·split
   ·exact .inl rfl
   ·trivial
 ·intro _ _ _ _;split
  ·trivial
  ·exact JG rfl
 ·intro _;split
  ·trivial
  ·exact JG rfl
 ·intro _;unfold Gp;split
  ·trivial
  ·split
   ·simp only;split
    ·exact .inl rfl
    ·exact .inl rfl
   ·trivial
 ·exact fun _=>.inl rfl
 ·intro _;split
  ·trivial
  ·exact .inl rfl
 ·exact fun _=>.inr rfl
 ·exact fun _=>.inl rfl
 ·intro _;split
  ·exact .inl rfl
  ·trivial
theorem QS {c:Cq} {gl:List Int} {q:Int→Prop} (hq:∀ x∈c.1,q x.2.1):∀ (f:Nat) (s t:VS),q s.fin→GV c gl f s=.ok t→q t.fin
 | 0,s,t,h,hr=>by cases hr;exact h
 | f+1,s,t,h,hr=>by
  rw [GV] at hr;split at hr
  ·cases hr;exact h
  ·cases hs:FT c gl s with
   | err e=>rw [hs] at hr;cases hr
   | ok u =>
    rw [hs] at hr;refine QS hq f u t ?_ hr;unfold FT at hs;split at hs
    ·split at hs
     ·rename_i h2;split at hs
      ·have hf:=X5 (gl:=gl) (points:=c.2.2.1) (i:=H9 c s.pc) (s:=Ir s);rw [hs] at hf;rcases hf with hf|hf
       ·rw [hf];exact h
       ·rw [hf];refine hq _ ?_;unfold H9;have hl:s.pc.toNat < c.1.length:=by omega
        rw [List.getD_eq_getElem?_getD,List.getElem?_eq_getElem hl];exact List.getElem_mem hl
      ·cases hs
     ·cases hs
    ·cases hs
theorem bJ {c:Cq} {ins gl:List Int} {r:GZ×Nat} {q:Int→Prop} (h0:q 0) (hq:∀ x∈c.1,q x.2.1) (hr:JL c ins gl=r):q r.1.2.2.1:=by
 rw [← hr];unfold JL;split
 ·split
  ·rename_i s hs;exact QS hq _ _ _ (by exact h0) hs
  ·exact h0
 ·exact h0
theorem bI {S:Ac} {v:Value} {c:Cq} {ins gl:List Int} {r:GZ×Nat} (hc:RSl S v c.1) (hr:JL c ins gl=r):Au r.1.2.2.1:=by
 refine bJ (q:=Au) (by unfold Au;omega) (fun x hx=>?_) hr;obtain ⟨i,hi,rfl⟩:=List.getElem_of_mem hx;rcases hc with ⟨ad,cap,rfl,h0,_⟩|⟨b,o,cap,cc,T,fz,rfl,_,_,_,hR⟩
 ·rw [h0] at hi;simp at hi
 ·have h:=hR.2 i _ (List.getElem?_eq_getElem hi);exact h.2.2.2.1.2
theorem eC {S:Ac} {i:Nat} {vi vp vn:Value} {ins:List Int} {o:GZ} (hi:i < 4) (h1:RSl S vi ins) (h2:RSl S vp o.1) (h3:RSl S vn o.2.1) (h4:Au o.2.2.1) :
  Rep.R S [.int .u8 (i:Int),.int .u8 0,.int .u8 0,.int .u8 0,.int .u8 0,.int .u8 0,.int .u8 0,.int .u8 0,.int .u8 0,.int .u8 0,.int .u8 0,.int .u8 0,.int .u8 0,.int .u8 0,.int .u8 0,.int .u8 0,vi,vp,vn,.int .i64 o.2.2.1] (PH i ins o):=by
 have hd:Rep.R S [.int .u8 (i:Int),.int .u8 0,.int .u8 0,.int .u8 0,.int .u8 0,.int .u8 0,.int .u8 0,.int .u8 0,.int .u8 0,.int .u8 0,.int .u8 0,.int .u8 0,.int .u8 0,.int .u8 0,.int .u8 0,.int .u8 0] (YS i):=by
  have:=Bi (S:=S) (d:=YS i) rfl
  have e:u8s (YS i).l=[.int .u8 (i:Int),.int .u8 0,.int .u8 0,.int .u8 0,.int .u8 0,.int .u8 0,.int .u8 0,.int .u8 0,.int .u8 0,.int .u8 0,.int .u8 0,.int .u8 0,.int .u8 0,.int .u8 0,.int .u8 0,.int .u8 0]:=by
   match i,hi with
   | 0,_=>rfl
   | 1,_=>rfl
   | 2,_=>rfl
   | 3,_=>rfl
  rwa [e] at this
 exact Ay hd (Ay (cs:=[_]) ⟨_,rfl,h1⟩ (Ay (cs:=[_]) ⟨_,rfl,h2⟩ (Ay (cs:=[_]) ⟨_,rfl,h3⟩ (Ay (cs:=[_]) ⟨rfl,h4⟩ Cf))))
theorem getD_at {l:List Int} {i:Nat} (h:i < l.length):l.getD i 0=l[i]:=by rw [List.getD_eq_getElem?_getD,List.getElem?_eq_getElem h];rfl
section
variable {S:Ac} {M:List Chunk} {b:Nat} {vi vg:Value} {c:Cq} {s:VS} {vv vs vp vn:Value}
theorem mul_in {a b:Int} (ha:Gb a) (hb:Gb b):0≤a * b∧a * b≤4294836225:=by
 unfold Gb at *;refine ⟨Int.mul_nonneg ha.1 hb.1,?_⟩;have:=Int.mul_le_mul ha.2 hb.2 hb.1 (by decide)
 simpa using this
end
abbrev RB (vi:Value) (c:Cq):Value:=.agg #[vi,.int .i64 c.2.1,.int .i64 c.2.2.1]
theorem or3I:∀ a < 4,∀ b < 4,bits .or .i64 ((a:Nat):Int) ((b:Nat):Int)=((a ||| b:Nat):Int):=by decide +kernel
theorem qt_orI {P:Program} {S:Ac} {M:List Chunk} {l:List Value} {T U:TypeId} {x y:Operand} {a b:Int} (hx:Ai l x=.int .i64 a) (hy:Ai l y=.int .i64 b) (ha:0≤a∧a≤3) (hb:0≤b∧b≤3):Qt P l (.binOp .or T x y U) S M (.int .i64 (Q4 a b)):=fun dst ty pos af w _=>by
 have e:bits .or .i64 a b=Q4 a b:=by
  have:=or3I a.toNat (by omega) b.toNat (by omega);rw [Int.toNat_of_nonneg ha.1,Int.toNat_of_nonneg hb.1] at this;exact this
 simp [execOp,hx,hy,eqGuard_at_int,binOp_or,intBits_or,e]
abbrev insC (i:DS):List Value:=[.int .i64 i.1,.int .i64 i.2.1,.int .i64 i.2.2.1]
abbrev Ss:TypeId:=99
abbrev KD:List Value:=[.slice none 0 0,.slice none 0 0,.int .i64 0,.int .i64 0]
abbrev du (vp vn:Value) (fin steps:Int):List Value:=[vp,vn,.int .i64 fin,.int .i64 steps]
theorem Sz {α:Type} [Rep α] {S:Ac}:RSl S (.slice none 0 0) ([]:List α):=.inl ⟨none,0,rfl,rfl,by simp [maxLen]⟩
theorem HY {α:Type} [Rep α] {S:Ac} {v:Value} {xs:List α} (h:RSl S v xs):∃ a n c,v=.slice a n c:=by
 rcases h with ⟨ad,cap,rfl,_⟩|⟨b,o,cap,c,T,fz,rfl,_⟩<;>exact ⟨_,_,_,rfl⟩
theorem rl_ints_eq {S:Ac} {c:List Value} {xs:List Int} (h:RL S c xs):c=cF Bf xs :=
 RL.flat (S:=S) (S':=S) (fun a b=>by rw [a.1,b.1]) h (Mc fun x hx=>by
  obtain ⟨i,hi,rfl⟩:=List.mem_iff_getElem.1 hx;exact (h.at_ i hi).2)
theorem PR (xs:List Int):cF Bf xs=xs.map fun n=>.int .i64 n:=by
 induction xs with
 | nil=>rfl
 | cons x xs ih=>show _::cF Bf xs=_;rw [ih];rfl
theorem VO (xs ys:List Int):cF Bf (xs++ys)=cF Bf xs++cF Bf ys:=by rw [PR,PR,PR,List.map_append]
theorem dV {x:Int} (h:Gb x):Au x:=by unfold Gb Au at *;omega
theorem pt_i64 {x:Int} (h:0≤x∧x≤3):Au x:=by unfold Au;omega
abbrev YA (S:Ac) (M:List Chunk) (r:GZ×Nat) (v:Value) (w:World):Prop :=
 ∃ S' a n k a' n' k',S.Le S'∧v=.tuple #[.agg (du (.slice a n k) (.slice a' n' k') r.1.2.2.1 r.1.2.2.2.1).toArray,.int .i64 (r.2:Int)]∧RSl S' (.slice a n k) r.1.1∧RSl S' (.slice a' n' k') r.1.2.1∧St S' M w
theorem Re {S:Ac} {M:List Chunk} {w:World} {v:Value} {n:Nat} {c:List Value} {T:TypeId} (xs:List Int) (hx:∀ x∈xs,Au x) (h:St S (.sl v T 1 n c::M) w) (hc:c=cF Bf xs) (hn:n=xs.length):∃ S',S.Le S'∧St S' M w∧RSl S' v xs :=
 St.freeze (α:=Int) (hc▸h) (Mc hx) hn
theorem WU {S:Ac} {v:Value} {xs:List Int} (h:RSl S v xs):∀ x∈xs,Au x:=by
 intro x hx;obtain ⟨i,hi,rfl⟩:=List.mem_iff_getElem.1 hx;rcases h with ⟨ad,cap,_,h,_⟩|⟨b,o,cap,c,T,fz,_,_,_,_,h⟩
 ·subst h;simp at hi
 ·exact (h.at_ i hi).2
theorem rwrap_c {S M} (w:World) (hst:St S M w) (n:Int):Ad Tryz.prog 116 [.int .i64 n] w fun v w'=>v=.int .i64 (Ih n)∧St S M w':=by
 unfold Ad
 have h:n.tmod 65536=n % 65536∨(n % 65536≠0∧n.tmod 65536=n % 65536 - 65536):=by
  rcases Int.le_total 0 n with h|h
  ·exact .inl (Int.tmod_eq_emod_of_nonneg h)
  ·have e:n.tmod 65536 = -((-n).tmod 65536):=by rw [Int.neg_tmod,Int.neg_neg]
   rw [e,Int.tmod_eq_emod_of_nonneg (by omega)];omega
 by_cases hn:n.tmod 65536 < 0
 ·go_enter Tryz.func116,Tryz.ntmps116;repeat' (first|(apply gK ();go_step)|fail)
  go_ret;refine ⟨_,rfl,?_,hst⟩;show Value.int .i64 _=Value.int .i64 _
  congr 1
  unfold Ih;try unfold wrap64
  omega
 ·go_enter Tryz.func116,Tryz.ntmps116;repeat' (first|(apply gK ();go_step)|fail)
  go_ret;refine ⟨_,rfl,?_,hst⟩;show Value.int .i64 _=Value.int .i64 _
  congr 1
  unfold Ih;omega
theorem rtruth_c {S M} (w:World) (hst:St S M w) (b:Bool):Ad Tryz.prog 119 [.bool b] w fun v w'=>v=.int .i64 (FR b)∧St S M w':=by
 unfold Ad;cases b
 all_goals
  go_enter Tryz.func119,Tryz.ntmps119;repeat' (first|(apply gK ();go_step)|fail)
  go_ret;exact ⟨_,rfl,rfl,hst⟩
theorem rin_c {S M} (w:World) (hst:St S M w) (vs:Value) (xs:List Int) (hxs:RSl S vs xs) (hm:xs.length≤1048576) (x:Int) :
  Ad Tryz.prog 120 [vs,.int .i64 x] w fun v w'=>v=.bool (xs.contains x)∧St S M w':=by
 unfold Ad;have k1:=hxs.oneCell;go_enter Tryz.func120,Tryz.ntmps120;repeat' (first|(apply gK ();go_step)|fail)
 go_loopw [5] (fun v wr=>∃ k:Nat,k≤xs.length∧v=.int .i64 k∧(∀ j (h:j < xs.length),j < k→xs[j]≠x)∧St S M wr) (fun v _=>xs.length - (intOf v).toNat)
 case atStart=>exact ⟨0,Nat.zero_le _,rfl,fun j _ h=>absurd h (Nat.not_lt_zero _),hst⟩
 case round =>
  clear hst;obtain ⟨k,hk,rfl,hno,hst⟩:=hrel;have hno:=Lib.hid hno;by_cases hlt:k < xs.length
  ·by_cases hx:xs[k]=x
   ·repeat' (first|(apply gK ();go_step)|apply sX ()|(apply sN ();intro hI)|(apply sI ();intro v hp)|fail)
    go_ret;exact ⟨_,rfl,by rw [List.contains_iff_mem.2 (hx▸List.getElem_mem hlt)];rfl,hst⟩
   ·repeat' (first|(apply gK ();go_step)|apply sX ()|(apply sN ();intro hI)|(apply sI ();intro v hp)|fail)
    go_roundw
    case rel =>
     refine ⟨k+1,by omega,by go_num,fun j h1 h2=>?_,hst⟩;rcases Nat.lt_succ_iff_lt_or_eq.1 h2 with h|rfl
     ·exact hno.out j h1 h
     ·exact hx
    case measure=>simp [intOf];omega
  ·repeat' (first|(apply gK ();go_step)|apply sX ()|fail)
   go_ret;refine ⟨_,rfl,?_,hst⟩
   have:xs.contains x=false:=by
    rw [Bool.eq_false_iff];intro h;obtain ⟨j,hj,e⟩:=List.mem_iff_getElem.1 (List.contains_iff_mem.1 h);exact hno.out j hj (by omega) e
   rw [this];rfl
def popsV (op:Int):Int:=if op=1∨op=2∨op=13∨op=15∨op=16∨op=17 then 0 else if op=3∨op=11∨op=12∨op=14 then 1 else if 4≤op∧op≤10 then 2 else -1
theorem rpops_ok {S M} (w:World) (hst:St S M w) (op:Int) (h:1≤op∧op < 18):Ad Tryz.prog 115 [.int .i64 op] w fun v w'=>v=.int .i64 (popsV op)∧St S M w':=by
 have hc:op=1∨op=2∨op=3∨op=4∨op=5∨op=6∨op=7∨op=8∨op=9∨op=10∨op=11∨op=12∨op=13∨op=14∨op=15∨op=16∨op=17:=by omega
 unfold Ad;rcases hc with rfl|rfl|rfl|rfl|rfl|rfl|rfl|rfl|rfl|rfl|rfl|rfl|rfl|rfl|rfl|rfl|rfl
 all_goals
  go_enter Tryz.func115,Tryz.ntmps115;repeat' (first|(apply gK ();go_step)|fail)
  go_ret;exact ⟨_,rfl,rfl,hst⟩
theorem rwith_c {S M} (w:World) (hst:St S M w) (vs:Value) (xs:List Int) (hxs:RSl S vs xs) (hm:xs.length≤1048576) (k:Nat) (hk:k < xs.length) (x:Int) (hx:Au x) :
  Ad Tryz.prog 117 [vs,.int .i64 (k:Int),.int .i64 x] w fun v w'=>∃ S',S.Le S'∧RSl S' v (Fm xs k x)∧St S' M w':=by
 unfold Ad;have k1:=hxs.oneCell;go_enter Tryz.func117,Tryz.ntmps117;repeat' (first|(apply gK ();go_step)|fail)
 refine AA (vs:=[]) (cs:=[]) hst Aa Aa rfl rfl (by simp) rfl (by omega) (by omega) ?_;clear hst;intro x0 w hst;(try refine nX ?_);repeat' (first|(apply gK ();go_step)|fail)
 refine A2 (α:=Int) (k:=0) hst Ab Ab rfl hxs Aa Aa Aa (by omega) (by omega) (by decide) ?_;clear hst;intro x2 w c2 hc2 hst;(try refine nX ?_);obtain rfl:=rl_ints_eq hc2;clear hc2;rw [show (0+xs.length)=xs.length from Nat.zero_add _] at hst;have hst:St S (.sl x2 3 1 xs.length (cF Bf xs)::M) w:=hst;have hone:=AW hst;repeat' (first|(with_reducible refine kI ?_;(refine An hst (Aq hst Ab SlIn.h rfl Aa Aa Af Af) ?_);rintro v hp;(try simp only [Int.toNat_natCast,Int.toNat_natCast_add_one,Int.reduceToNat] at hp)<;>(try refine nX ?_))|(with_reducible refine kS ?_;refine YI hst Ab Ak SlIn.h Aa Ab Af ?_;clear hst;intro w hst<;>(try refine nX ?_)<;>(try replace hst:=nH hst))|(apply gK ();go_step)|fail)
 go_ret;have fz:=ED (xs.set k x) hst rfl (fun y hy=>(List.mem_or_eq_of_mem_set hy).elim (WU hxs y) (fun e=>e▸hx)) (by rw [List.length_set]);obtain ⟨S2,hS2,hst2,hv⟩:=fz;exact ⟨_,rfl,S2,hS2,hv,hst2⟩
theorem eqd (a b:Int):(a == b)=decide (a=b):=by rw [Bool.eq_iff_iff];simp
theorem ned (a:Int):(a != 0)=decide (a≠0):=by rw [Bool.eq_iff_iff];simp
theorem mul_inR {a b:Int} (ha:Gb a) (hb:Gb b):0≤a * b∧a * b≤4294836225:=mul_in ha hb
theorem rbinary_c {S M} (w:World) (hst:St S M w) (op a b:Int) (h:4≤op∧op≤10) (ha:Gb a) (hb:Gb b):Ad Tryz.prog 118 [.int .i64 op,.int .i64 a,.int .i64 b] w fun v w'=>v=.int .i64 (PV op a b)∧St S M w':=by
 have hm:=mul_inR ha hb;unfold Gb at ha hb;have hc:op=4∨op=5∨op=6∨op=7∨op=8∨op=9∨op=10:=by omega
 unfold Ad;rcases hc with rfl|rfl|rfl|rfl|rfl|rfl|rfl
 ·go_enter Tryz.func118,Tryz.ntmps118;repeat' (first|(apply gK ();go_step)|(apply kc ();refine sc (rwrap_c _ hst (a+b)) ?_;clear hst;rintro v w ⟨rfl,hst⟩)|fail)
  go_ret;exact ⟨_,rfl,rfl,hst⟩
 ·go_enter Tryz.func118,Tryz.ntmps118;repeat' (first|(apply gK ();go_step)|(apply kc ();refine sc (rwrap_c _ hst (a - b)) ?_;clear hst;rintro v w ⟨rfl,hst⟩)|fail)
  go_ret;exact ⟨_,rfl,rfl,hst⟩
 ·go_enter Tryz.func118,Tryz.ntmps118;repeat' (first|(apply gK ();go_step)|(apply kc ();refine sc (rwrap_c _ hst (a * b)) ?_;clear hst;rintro v w ⟨rfl,hst⟩)|fail)
  go_ret;exact ⟨_,rfl,rfl,hst⟩
 ·go_enter Tryz.func118,Tryz.ntmps118;repeat' (first|(apply gK ();go_step)|(apply kc ();refine sc (rtruth_c _ hst (decide (a < b))) ?_;clear hst;rintro v w ⟨rfl,hst⟩)|fail)
  go_ret;exact ⟨_,rfl,rfl,hst⟩
 ·go_enter Tryz.func118,Tryz.ntmps118;repeat' (first|(apply gK ();go_step)|(apply kc ();refine sc (rtruth_c _ hst (a == b)) ?_;clear hst;rintro v w ⟨rfl,hst⟩)|fail)
  go_ret;exact ⟨_,rfl,by rw [eqd];rfl,hst⟩
 ·by_cases h0:a=0
  ·subst h0;go_enter Tryz.func118,Tryz.ntmps118;repeat' (first|go_skip|(apply gK ();go_step)|(apply kc ();refine sc (rtruth_c _ hst false) ?_;clear hst;rintro v w ⟨rfl,hst⟩)|fail)
   all_goals (try (exfalso;omega))
   go_ret;exact ⟨_,rfl,rfl,hst⟩
  ·go_enter Tryz.func118,Tryz.ntmps118;repeat' (first|go_skip|apply sG ()|(with_reducible refine Sl.k_guard ?_;refine Sl.guard_cases rfl ?_ ?_<;>intro hg<;>(simp only [hg,Bool.not_true,Bool.not_false])<;>(try replace hg:=gN hg)<;>(try refine nX ?_))|(apply gK ();go_step)|(apply kc ();refine sc (rtruth_c _ hst (b != 0)) ?_;clear hst;rintro v w ⟨rfl,hst⟩)|fail)
   all_goals (try (exfalso;omega))
   go_ret;exact ⟨_,rfl,by rw [ned];simp [PV,h0],hst⟩
 ·by_cases h0:a=0
  ·subst h0;go_enter Tryz.func118,Tryz.ntmps118;repeat' (first|apply sG ()|(apply gK ();go_step)|(apply kc ();refine sc (rtruth_c _ hst (b != 0)) ?_;clear hst;rintro v w ⟨rfl,hst⟩)|fail)
   all_goals (try (exfalso;omega))
   go_ret;exact ⟨_,rfl,by rw [ned];simp [PV],hst⟩
  ·go_enter Tryz.func118,Tryz.ntmps118;repeat' (first|go_skip|apply sG ()|(with_reducible refine Sl.k_guard ?_;refine Sl.guard_cases rfl ?_ ?_<;>intro hg<;>(simp only [hg,Bool.not_true,Bool.not_false])<;>(try replace hg:=gN hg)<;>(try refine nX ?_))|(apply gK ();go_step)|(apply kc ();refine sc (rtruth_c _ hst true) ?_;clear hst;rintro v w ⟨rfl,hst⟩)|fail)
   all_goals (try (exfalso;omega))
   go_ret;exact ⟨_,rfl,by simp [PV,h0],hst⟩
abbrev QO (s:VS) (vv vs vp vn:Value) (e:Int):List Value:=[.int .i64 s.pc,vv,vs,vp,vn,.int .i64 s.fin,.int .i64 (s.steps:Int),.int .i64 (s.br:Int),.bool s.done,.int .i64 e]
abbrev On (s:VS) (vv vs vp vn:Value) (e:Int):Value:=.agg #[.int .i64 s.pc,vv,vs,vp,vn,.int .i64 s.fin,.int .i64 (s.steps:Int),.int .i64 (s.br:Int),.bool s.done,.int .i64 e]
abbrev Wa (S:Ac) (M:List Chunk) (t:VS) (v:Value) (w:World):Prop :=
 ∃ S' vv vs vp vn,S.Le S'∧v=On t vv vs vp vn 0∧RSl S' vv t.vars∧RSl S' vs t.stack∧RSl S' vp t.pts∧RSl S' vn t.notes∧St S' M w
abbrev bu (S:Ac) (M:List Chunk) (e:Nat) (v:Value) (w:World):Prop :=
 ∃ S' t vv vs vp vn,S.Le S'∧v=On t vv vs vp vn (e:Int)∧vv.oneCell'=true∧vs.oneCell'=true∧vp.oneCell'=true∧vn.oneCell'=true∧St S' M w
def bj (S:Ac) (M:List Chunk):VR→Value→World→Prop
 | .ok t,v,w=>Wa S M t v w
 | .err e,v,w=>bu S M e v w
section
variable {S:Ac} {M:List Chunk} {vi vg:Value} {c:Cq} {s:VS} {vv vs vp vn:Value}
set_option maxRecDepth 60000 in
theorem step_1 (w:World) (hst:St S M w) (hvi:RSl S vi c.1) (hvm:c.1.length≤1048576) (hvv:RSl S vv s.vars) (hvs:RSl S vs s.stack) (hvp:RSl S vp s.pts) (hvn:RSl S vn s.notes) (h3:s.steps < 3000) (hp0:0≤s.pc) (hp1:s.pc < c.1.length) (gd:EZ c s) {a b:Int} {u:Unit}
  (hi:c.1[s.pc.toNat]'(by omega)=(1,a,b,u)) (hlen:s.stack.length < 400) :
  Ad Tryz.prog 72 [RB vi c,On s vv vs vp vn 0,vg] w fun v w'=>Wa S M { Ir s with stack:=s.stack++[Ih a] } v w':=by
 unfold Ad;obtain ⟨ai,ni,ci,rfl⟩:=HY hvi;obtain ⟨avq0,nv,cvq0,rfl⟩:=HY hvv;obtain ⟨az,nzq0,cz,rfl⟩:=HY hvs;obtain ⟨ap,np,cp,rfl⟩:=HY hvp;obtain ⟨an,nn,cn,rfl⟩:=HY hvn;have hsl:=gd.slen;have rp:∀ (M:List Chunk) (w:World),St S M w→Ad Tryz.prog 115 [.int .i64 1] w fun v w'=>v=.int .i64 0∧St S M w':=fun M w hst=>rpops_ok w hst 1 (by decide)
 go_enter Tryz.func72,Tryz.ntmps72;repeat' ((apply Z8 ());first|apply sG ()|(with_reducible refine Sl.k_guard ?_;refine Sl.guard_cases rfl ?_ ?_<;>intro hg<;>first|exact gX|(simp only [hg,Bool.not_true,Bool.not_false])<;>(try replace hg:=gN hg)<;>(try refine nX ?_))|(apply gK ();go_step)|apply sX ()|apply sP ()|(apply sI ();intro v hp)|(apply sS ();clear hst;intro w hst)|(apply sB ();clear hst;intro bx w hst)|(apply sA ();clear hst;intro bk w hst)|fail)
 rw [hi] at hst hp ⊢;simp only [insC] at hst ⊢;repeat' (first|apply sG ()|(apply gK ();go_step)|(apply kc ();refine sc (rp _ _ hst) ?_;clear hst;rintro v w ⟨rfl,hst⟩)|apply sX ()|fail)
 refine QR (a:=0) (b:=s.stack.length) Ab hvs Aa Aa (.inl ⟨rfl,rfl⟩) (.inr ⟨.i64,by simp [Ai,AX]⟩) (.inl rfl) (by omega) (by omega) ?_;intro vz hvz;rw [List.drop_zero,Nat.sub_zero,List.take_length] at hvz;obtain ⟨ay,nyq0,cy,rfl⟩:=HY hvz;(try refine nX ?_);have hzin:=gd.stack;have hw:=OA a;have hw0:=hw.1;have rw1:=fun (M:List Chunk) (w:World) (hst:St S M w)=>rwrap_c w hst a
 repeat' (first|(apply gK ();go_step)|(apply kc ();refine sc (rw1 _ _ hst) ?_;clear hst;rintro v w ⟨rfl,hst⟩)|apply sX ()|(apply sS ();clear hst;intro w hst)|fail)
 refine AA (vs:=[]) (cs:=[]) hst Aa Aa rfl rfl (by simp) rfl (by omega) (by omega) ?_;clear hst;intro x0 w hst;(try refine nX ?_);repeat' (first|apply sX ()|fail)
 refine A2 (α:=Int) (k:=0) hst Ab Ab rfl hvz Aa Aa Aa (by omega) (by omega) (by decide) ?_;clear hst;intro x2 w c2 hc2 hst;(try refine nX ?_);obtain rfl:=rl_ints_eq hc2;clear hc2;repeat' (first|(apply gK ();go_step)|fail)
 refine AA (vs:=[.int .i64 (Ih a)]) (cs:=cF Bf [(Ih a)]) hst Aa Aa rfl rfl (by simp [Value.cells]) rfl (by omega) (by omega) ?_;clear hst;intro x11 w hst;(try refine nX ?_);refine AG (k:=1) (j:=0) hst Ab Ab rfl rfl Aa Aa Aa (by simp [cF,Bf,Value.oneCell']) (by omega) (by omega) (by decide) ?_;clear hst;intro x12 w hst;(try refine nX ?_);simp only [List.set_cons_succ,List.set_cons_zero] at hst;replace hst:=hst.drop;have fz:=Re (s.stack++[(Ih a)]) (fun y hy=>dV (RI hzin hw y hy)) hst (by simp only [VO,List.nil_append]) (by simp only [List.length_append,List.length_cons,List.length_nil];omega);clear hst;obtain ⟨S2,hS2,hst,hsz⟩:=fz;obtain ⟨ax,nx,cx,rfl⟩:=HY hsz;repeat' (first|(apply gK ();go_step)|apply sX ()|(apply sS ();clear hst;intro w hst)|fail)
 refine Ca rfl hst rfl 1 rfl inferInstance rfl rfl ?_;exact ⟨_,rfl,S2,_,_,_,_,hS2,rfl,hvv.mono hS2,hsz,hvp.mono hS2,hvn.mono hS2,hst.drop.drop.drop.drop⟩
set_option maxRecDepth 60000 in
theorem step_16 (w:World) (hst:St S M w) (hvi:RSl S vi c.1) (hvm:c.1.length≤1048576) (hvv:RSl S vv s.vars) (hvs:RSl S vs s.stack) (hvp:RSl S vp s.pts) (hvn:RSl S vn s.notes) (h3:s.steps < 3000) (hp0:0≤s.pc) (hp1:s.pc < c.1.length) (gd:EZ c s) {a b:Int} {u:Unit}
  (hi:c.1[s.pc.toNat]'(by omega)=(16,a,b,u))  :
  Ad Tryz.prog 72 [RB vi c,On s vv vs vp vn 0,vg] w fun v w'=>Wa S M { Ir s with done:=true } v w':=by
 unfold Ad;obtain ⟨ai,ni,ci,rfl⟩:=HY hvi;obtain ⟨avq0,nv,cvq0,rfl⟩:=HY hvv;obtain ⟨az,nzq0,cz,rfl⟩:=HY hvs;obtain ⟨ap,np,cp,rfl⟩:=HY hvp;obtain ⟨an,nn,cn,rfl⟩:=HY hvn;have hsl:=gd.slen;have rp:∀ (M:List Chunk) (w:World),St S M w→Ad Tryz.prog 115 [.int .i64 16] w fun v w'=>v=.int .i64 0∧St S M w':=fun M w hst=>rpops_ok w hst 16 (by decide)
 go_enter Tryz.func72,Tryz.ntmps72;repeat' ((apply Z8 ());first|apply sG ()|(with_reducible refine Sl.k_guard ?_;refine Sl.guard_cases rfl ?_ ?_<;>intro hg<;>first|exact gX|(simp only [hg,Bool.not_true,Bool.not_false])<;>(try replace hg:=gN hg)<;>(try refine nX ?_))|(apply gK ();go_step)|apply sX ()|apply sP ()|(apply sI ();intro v hp)|(apply sS ();clear hst;intro w hst)|(apply sB ();clear hst;intro bx w hst)|(apply sA ();clear hst;intro bk w hst)|fail)
 rw [hi] at hst hp ⊢;simp only [insC] at hst ⊢;repeat' (first|apply sG ()|(apply gK ();go_step)|(apply kc ();refine sc (rp _ _ hst) ?_;clear hst;rintro v w ⟨rfl,hst⟩)|apply sX ()|fail)
 refine QR (a:=0) (b:=s.stack.length) Ab hvs Aa Aa (.inl ⟨rfl,rfl⟩) (.inr ⟨.i64,by simp [Ai,AX]⟩) (.inl rfl) (by omega) (by omega) ?_;intro vz hvz;rw [List.drop_zero,Nat.sub_zero,List.take_length] at hvz;obtain ⟨ay,nyq0,cy,rfl⟩:=HY hvz;(try refine nX ?_);have hzin:=gd.stack;repeat' (first|(apply gK ();go_step)|apply sX ()|(apply sS ();clear hst;intro w hst)|fail)
 refine Ca rfl hst rfl 1 rfl inferInstance rfl rfl ?_;exact ⟨_,rfl,S,_,_,_,_,Ac.Le.refl _,rfl,hvv,hvz,hvp,hvn,hst.drop.drop.drop.drop⟩
end
section
variable {S:Ac} {M:List Chunk} {vi vg:Value} {c:Cq} {s:VS} {vv vs vp vn:Value}
theorem top_ata {s:VS} (h:1≤s.stack.length):s.stack[((s.stack.length:Int) - 1).toNat]'(by omega)=Ed s:=by
 have e:((s.stack.length:Int) - 1).toNat=s.stack.length - 1:=by omega
 simp only [e];exact (getD_at (by omega)).symm
theorem top2_ata {s:VS} (h:2≤s.stack.length):s.stack[((s.stack.length:Int) - 2).toNat]'(by omega)=Ed (Cb s):=by
 have e:((s.stack.length:Int) - 2).toNat=s.stack.length - 2:=by omega
 simp only [e];unfold Ed Cb;simp only [List.length_take];have e2:min (s.stack.length - 1) s.stack.length - 1=s.stack.length - 2:=by omega
 rw [e2,List.getD_eq_getElem?_getD,List.getElem?_take_of_lt (by omega),List.getElem?_eq_getElem (by omega)];rfl
theorem rwith_da {S M} (w:World) (hst:St S M w) (vs:Value) (xs:List Int) (hxs:RSl S vs xs) (hm:xs.length≤1048576) (k:Nat) (hk:k < xs.length) (x:Int) (hx:Au x) :
  Ad Tryz.prog 117 [vs,.int .i64 (k:Int),.int .i64 x] w fun v w'=>∃ S' a n c,S.Le S'∧v=.slice a n c∧RSl S' (.slice a n c) (Fm xs k x)∧St S' M w' :=
 (rwith_c w hst vs xs hxs hm k hk x hx).mono fun v w' ⟨S',h1,h2,h3⟩=>by
  obtain ⟨a,n,c,rfl⟩:=HY h2;exact ⟨S',a,n,c,h1,rfl,h2,h3⟩
end
end Go.Proofs.YtmmbidoldegemaaGreatDoor
