/- Part 24 of the proof that the law of the last part holds; no conditions. -/
import Derived.Test.YtmmbidoldegemaaGreatDoorZ08
set_option linter.unusedSimpArgs false
set_option linter.unusedVariables false
set_option maxRecDepth 8000
set_option maxHeartbeats 8000000
namespace Go.Proofs.YtmmbidoldegemaaGreatDoor
open Go.RowKit Go.Sl
theorem Og {S M} (w:World) (hst:St S M w) (k:Int) :
  Ad Tryz.prog 137 [.int .i64 k] w fun v w'=>v=.int .i64 (DQ k)∧St S M w':=by
 unfold Ad;unfold DQ;by_cases h1:1≤k∧k≤10
 ·rw [if_pos h1];go_enter Tryz.func137,Tryz.ntmps137;repeat' (first|apply sG ()|(apply gK ();go_step)|fail)
  go_ret;exact ⟨_,rfl,rfl,hst⟩
 ·rw [if_neg h1];by_cases h2:11≤k∧k≤16
  ·rw [if_pos h2];go_enter Tryz.func137,Tryz.ntmps137;repeat' (first|apply sG ()|(with_reducible refine Sl.k_guard ?_;refine Sl.guard_cases rfl ?_ ?_<;>intro hg<;>first|exact gX|(simp only [hg,Bool.not_true,Bool.not_false])<;>(try replace hg:=gN hg)<;>(try refine nX ?_))|(apply gK ();go_step)|fail)
   go_ret;exact ⟨_,rfl,rfl,hst⟩
  ·rw [if_neg h2];by_cases h3:k=17
   ·rw [if_pos h3];subst h3;go_enter Tryz.func137,Tryz.ntmps137;repeat' (first|apply sG ()|(apply gK ();go_step)|fail)
    go_ret;exact ⟨_,rfl,rfl,hst⟩
   ·rw [if_neg h3];go_enter Tryz.func137,Tryz.ntmps137;repeat' (first|go_skip|apply sG ()|(with_reducible refine Sl.k_guard ?_;refine Sl.guard_cases rfl ?_ ?_<;>intro hg<;>first|exact gX|(simp only [hg,Bool.not_true,Bool.not_false])<;>(try replace hg:=gN hg)<;>(try refine nX ?_))|(apply gK ();go_step)|fail)
    all_goals first
     | (exfalso;omega)
     | (go_ret;exact ⟨_,rfl,rfl,hst⟩)
theorem dX {S M} (w:World) (hst:St S M w) (n a b:Int) :
  Ad Tryz.prog 112 [.int .i64 n,.int .i64 a,.int .i64 b] w fun v w'=>v=.bool (decide (a≤n∧n≤b))∧St S M w':=by
 unfold Ad;obtain ⟨R,hR⟩:∃ R,decide (a≤n∧n≤b)=R:=⟨_,rfl⟩
 rw [hR]
 cases R with
 | true =>
  have h:=of_decide_eq_true hR;clear hR;go_enter Tryz.func112,Tryz.ntmps112;repeat' (first|apply sG ()|(apply gK ();go_step)|fail)
  all_goals first
   | (exfalso;omega)
   | (go_ret;exact ⟨_,rfl,by simp only [decide_eq_true_eq,Value.bool.injEq];omega,hst⟩)
   | (go_ret;exact ⟨_,rfl,rfl,hst⟩)
 | false =>
  have h:=of_decide_eq_false hR;clear hR;by_cases h1:a≤n
  ·have h2:¬ n≤b:=fun e=>h ⟨h1,e⟩
   clear h;go_enter Tryz.func112,Tryz.ntmps112;repeat' (first|apply sG ()|(apply gK ();go_step)|fail)
   all_goals first
    | (exfalso;omega)
    | (go_ret;exact ⟨_,rfl,rfl,hst⟩)
    | (go_ret;exact ⟨_,rfl,by simp only [decide_eq_false_iff_not,Value.bool.injEq];omega,hst⟩)
  ·clear h;go_enter Tryz.func112,Tryz.ntmps112;repeat' (first|go_skip|(apply gK ();go_step)|fail)
   all_goals first
    | (exfalso;omega)
    | (go_ret;exact ⟨_,rfl,rfl,hst⟩)
theorem Ja {S M} (w:World) (hst:St S M w) (a b:Int) (ha:0≤a∧a≤100000) (hb:0≤b∧b≤100000) :
  Ad Tryz.prog 113 [.int .i64 a,.int .i64 b] w fun v w'=>v=.int .i64 (DR a b)∧St S M w':=by
 unfold Ad;unfold DR;by_cases h:a+b > 3001
 ·rw [if_pos h];go_enter Tryz.func113,Tryz.ntmps113;repeat' (first|(apply gK ();go_step)|fail)
  go_ret;exact ⟨_,rfl,rfl,hst⟩
 ·rw [if_neg h];go_enter Tryz.func113,Tryz.ntmps113;repeat' (first|(apply gK ();go_step)|fail)
  go_ret;exact ⟨_,rfl,rfl,hst⟩
abbrev IJ (S:Ac) (M:List Chunk) (xs:List Int) (v:Value) (w:World):Prop:=∃ S' so,S.Le S'∧v=Ar so∧RSl S' (Ar so) xs∧St S' M w
theorem ED {S:Ac} {M:List Chunk} {w:World} {v:Value} {T:TypeId} {xs:List Int} {c:List Value} {n:Nat} (hst:St S (.sl v T 1 n c::M) w) (h:RL S c xs) (hn:n=xs.length):∃ S' so,S.Le S'∧v=Ar so∧RSl S' (Ar so) xs∧St S' M w:=by
 obtain ⟨S',hS,hs,hx⟩:=St.freeze (α:=Int) hst h hn;obtain ⟨a,m,k,rfl⟩:=BO hx;exact ⟨S',(a,m,k),hS,rfl,hx,hs⟩
theorem W7 {S:Ac} {a b c:Int} (h:Au a) (k:Au b) (m:Au c):RL S [.int .i64 a,.int .i64 b,.int .i64 c] [a,b,c]:=RL.append (c:=[_,_]) (Hi h k) (Cg m)
theorem VZ {S M} (w:World) (hst:St S M w) (k:Int) (many:Nat) (h:3≤k∧k≤9) :
  Ad Tryz.prog 136 [.int .i64 k,.int .i64 (many:Int)] w (IJ S M [1,1]):=by
 unfold Ad;obtain rfl|rfl|rfl|rfl|rfl|rfl|rfl:k=3∨k=4∨k=5∨k=6∨k=7∨k=8∨k=9:=by omega
 all_goals
  go_enter Tryz.func136,Tryz.ntmps136;repeat' (first|(apply gK ();go_step)|fail)
  refine AA (vs:=[.int .i64 1,.int .i64 1]) hst Aa Aa rfl rfl (by simp [Value.cells]) rfl (by omega) (by omega) ?_;clear hst;intro xx w hst;obtain ⟨S2,so,hS2,rfl,hx,hst2⟩:=ED hst (Hi (Aj (by decide)) (Aj (by decide))) rfl;apply ij ()
theorem V1 {S M} (w:World) (hst:St S M w) (k:Int) (many:Nat) (h:k=10∨k=11∨k=14) :
  Ad Tryz.prog 136 [.int .i64 k,.int .i64 (many:Int)] w (IJ S M [1]):=by
 unfold Ad;obtain rfl|rfl|rfl:=h
 all_goals
  go_enter Tryz.func136,Tryz.ntmps136;repeat' (first|(apply gK ();go_step)|fail)
  refine AA (vs:=[.int .i64 1]) hst Aa Aa rfl rfl (by simp [Value.cells]) rfl (by omega) (by omega) ?_;clear hst;intro xx w hst;obtain ⟨S2,so,hS2,rfl,hx,hst2⟩:=ED hst (Cg (Aj (by decide))) rfl;apply ij ()
theorem V2 {S M} (w:World) (hst:St S M w) (k:Int) (many:Nat) (h:k=12) (h3:many=3) :
  Ad Tryz.prog 136 [.int .i64 k,.int .i64 (many:Int)] w (IJ S M [1,3,3]):=by
 unfold Ad;subst h;subst h3
 all_goals
  go_enter Tryz.func136,Tryz.ntmps136;repeat' (first|(apply gK ();go_step)|fail)
  refine AA (vs:=[.int .i64 1,.int .i64 3,.int .i64 3]) hst Aa Aa rfl rfl (by simp [Value.cells]) rfl (by omega) (by omega) ?_;clear hst;intro xx w hst;obtain ⟨S2,so,hS2,rfl,hx,hst2⟩:=ED hst (W7 (Aj (by decide)) (Aj (by decide)) (Aj (by decide))) rfl;apply ij ()
theorem V3 {S M} (w:World) (hst:St S M w) (k:Int) (many:Nat) (h:k=12) (h3:¬ many=3) :
  Ad Tryz.prog 136 [.int .i64 k,.int .i64 (many:Int)] w (IJ S M [1,3]):=by
 unfold Ad;subst h;have h4:((many:Int) == 3)=false:=beq_eq_false_iff_ne.2 (by omega)
 all_goals
  go_enter Tryz.func136,Tryz.ntmps136;repeat' (first|apply sK ()|(apply gK ();go_step)|fail)
  refine AA (vs:=[.int .i64 1,.int .i64 3]) hst Aa Aa rfl rfl (by simp [Value.cells]) rfl (by omega) (by omega) ?_;clear hst;intro xx w hst;obtain ⟨S2,so,hS2,rfl,hx,hst2⟩:=ED hst (Hi (Aj (by decide)) (Aj (by decide))) rfl;apply ij ()
theorem V0 {S M} (w:World) (hst:St S M w) (k:Int) (many:Nat) (h:k=13) :
  Ad Tryz.prog 136 [.int .i64 k,.int .i64 (many:Int)] w (IJ S M [3]):=by
 unfold Ad;subst h
 all_goals
  go_enter Tryz.func136,Tryz.ntmps136;repeat' (first|(apply gK ();go_step)|fail)
  refine AA (vs:=[.int .i64 3]) hst Aa Aa rfl rfl (by simp [Value.cells]) rfl (by omega) (by omega) ?_;clear hst;intro xx w hst;obtain ⟨S2,so,hS2,rfl,hx,hst2⟩:=ED hst (Cg (Aj (by decide))) rfl;apply ij ()
theorem V4 {S M} (w:World) (hst:St S M w) (k:Int) (many:Nat) (hm:many≤100000) (h:k < 3∨15≤k) :
  Ad Tryz.prog 136 [.int .i64 k,.int .i64 (many:Int)] w (IJ S M (if k=17 then List.replicate many 2 else [])):=by
 unfold Ad;by_cases h17:k=17
 ·rw [if_pos h17];subst h17;go_enter Tryz.func136,Tryz.ntmps136;replace hst:=hst.nil 3 1;repeat' ((apply YY ());first|(apply gK ();go_step)|fail)
  repeat' (first|(apply gK ();go_step)|fail)
  go_loopw [5,6] (fun u5 u6 wr=>∃ (i:Nat) (so:Sv) (co:List Value),i≤many∧u5=Ar so∧u6=.int .i64 (i:Int)∧RL S co (List.replicate i (2:Int))∧St S (.sl (Ar so) 3 1 i co::M) wr) (fun _ v _=>many - (intOf v).toNat)
  case atStart=>exact ⟨0,(none,0,0),[],Nat.zero_le _,rfl,rfl,RL.nil,hst⟩
  case round =>
   clear hst;obtain ⟨i,so,co,hi,rfl,rfl,hR,hst⟩:=hrel;have hone:=AW hst;by_cases hlt:i < many
   ·repeat' (first|apply sG ()|(apply gK ();go_step)|fail)
    refine AA (vs:=[(.int .i64 2)]) hst Aa Aa rfl rfl (by simp [Value.cells]) rfl (by omega) (by omega) ?_;clear hst;intro u w hst;refine nX ?_;refine AG (j:=0) hst Ab Ab SlIn.h rfl Aa Aa Aa (by simp [Value.cells,Value.oneCell']) (by omega) (by omega) (by decide) ?_;clear hst;intro v' w hst;refine nX ?_;(try replace hst:=nH hst);replace hst:=hst.drop;obtain ⟨ay,cy,rfl⟩:=sl_formk (k:=0) hst rfl;(try refine nX ?_);repeat' (first|(apply gK ();go_step)|fail)
    go_roundw
    case rel=>exact ⟨i+1,(ay,i+1,cy),co++[.int .i64 2],by omega,rfl,by go_num,by rw [List.replicate_succ'];exact hR.append (Cg (Aj (by decide))),hst⟩
    case measure=>simp [intOf];omega
   ·obtain rfl:i=many:=by omega
    repeat' (first|apply sG ()|(apply gK ();go_step)|fail)
    obtain ⟨S2,so2,hS2,e2,hx,hst2⟩:=ED hst hR (by simp);clear hst;have hst:=hst2;clear hst2;go_ret;exact ⟨_,rfl,S2,so2,hS2,e2,hx,hst⟩
 ·rw [if_neg h17];have h9:k≠3∧k≠4∧k≠5∧k≠6∧k≠7∧k≠8∧k≠9∧k≠10∧k≠11∧k≠14∧k≠12∧k≠13:=by omega
  have hb:∀ n:Int,n=3∨n=4∨n=5∨n=6∨n=7∨n=8∨n=9∨n=10∨n=11∨n=14∨n=12∨n=13∨n=17→(k == n)=false:=fun n hn=>beq_eq_false_iff_ne.2 (by omega)
  have e3:=hb 3 (by omega);have e4:=hb 4 (by omega);have e5:=hb 5 (by omega);have e6:=hb 6 (by omega);have e7:=hb 7 (by omega);have e8:=hb 8 (by omega);have e9:=hb 9 (by omega);have e10:=hb 10 (by omega);have e11:=hb 11 (by omega);have e14:=hb 14 (by omega);have e12:=hb 12 (by omega);have e13:=hb 13 (by omega);have e17:=hb 17 (by omega);clear hb h9 h h17;go_enter Tryz.func136,Tryz.ntmps136;repeat' (first|apply sK ()|(apply gK ();go_step)|fail)
  go_loopw [5,6] (fun u5 u6 wr=>u5=.slice none 0 0∧u6=.int .i64 0∧St S M wr) (fun _ _ _=>0)
  case atStart=>exact ⟨rfl,rfl,hst⟩
  case round =>
   clear hst;obtain ⟨rfl,rfl,hst⟩:=hrel;by_cases h0:0 < many
   ·repeat' (first|apply sK ()|apply sG ()|(apply gK ();go_step)|fail)
    go_ret;exact ⟨_,rfl,S,(none,0,0),.refl _,rfl,Gh,hst⟩
   ·repeat' (first|apply sG ()|(apply gK ();go_step)|fail)
    go_ret;exact ⟨_,rfl,S,(none,0,0),.refl _,rfl,Gh,hst⟩
theorem bh {S M} (w:World) (hst:St S M w) (k:Int) (many:Nat) (hm:many≤100000) :
  Ad Tryz.prog 136 [.int .i64 k,.int .i64 (many:Int)] w (IJ S M (Fh k many)):=by
 unfold Fh;by_cases h1:3≤k∧k≤9
 ·rw [if_pos h1];exact VZ w hst k many h1
 ·rw [if_neg h1];by_cases h2:k=10∨k=11∨k=14
  ·rw [if_pos h2];exact V1 w hst k many h2
  ·rw [if_neg h2];by_cases h3:k=12
   ·rw [if_pos h3];by_cases h4:many=3
    ·rw [if_pos h4];exact V2 w hst k many h3 h4
    ·rw [if_neg h4];exact V3 w hst k many h3 h4
   ·rw [if_neg h3];by_cases h5:k=13
    ·rw [if_pos h5];exact V0 w hst k many h5
    ·rw [if_neg h5];exact V4 w hst k many hm (by omega)
abbrev CR (si sn:Sv) (p:Pg):Value:=.agg #[.slice si.1 si.2.1 si.2.2,.slice sn.1 sn.2.1 sn.2.2,.int .i64 p.2.2.1,.int .i64 p.2.2.2.1]
structure Du (S:Ac) (si sn:Sv) (p:Pg):Prop where
 i:RSl S (Ar si) p.1
 n:RSl S (Ar sn) p.2.1
 r:Au p.2.2.1
 q:Au p.2.2.2.1
 li:p.1.length≤100000
 ln:p.2.1.length≤100000
 lo:∀ x∈p.2.1,x.2.2.2.1.length≤100000
theorem Du.mono {S S':Ac} {si sn:Sv} {p:Pg} (h:Du S si sn p) (hS:S.Le S'):Du S' si sn p:=⟨h.i.mono hS,h.n.mono hS,h.r,h.q,h.li,h.ln,h.lo⟩
theorem IU (a b:By):decide (a=b)=decide (a.b=b.b):=by
 cases a;cases b
 simp
theorem LR {α:Type} (q:α→Bool) (xs:List α) {i:Nat} (h:i < xs.length):(xs.take (i+1)).any q=((xs.take i).any q || q xs[i]):=by
 rw [List.take_succ_eq_append_getElem h,List.any_append];simp
theorem GE {α:Type} {q:α→Bool} {xs:List α} {i:Nat} (h:(xs.take i).any q=true):xs.any q=true:=by
 rw [List.any_eq_true] at h ⊢;obtain ⟨x,hx,hq⟩:=h;exact ⟨x,List.mem_of_mem_take hx,hq⟩
theorem N9 {S M} (w:World) (hst:St S M w) (si sn:Sv) (p:Pg) (hp:Du S si sn p) (s:By) :
  Ad Tryz.prog 109 [CR si sn p,.string ⟨s.b.toArray⟩] w fun v w'=>v=.bool (GX p s)∧St S M w':=by
 unfold Ad;have hi:=hp.i;have hl:=hp.li;unfold GX;generalize hxs:p.1=xs at *;clear hxs hp;obtain ⟨R,hR⟩:∃ R,(xs.any fun i=>decide (i.1=s))=R:=⟨_,rfl⟩
 rw [hR];have HR:=Lib.hid hR;clear hR;go_enter Tryz.func109,Tryz.ntmps109;repeat' (first|(apply gK ();go_step)|(apply sB ();clear hst;intro bx w hst)|fail)
 go_loopw [5] (fun u5 wr=>∃ (i:Nat),i≤xs.length∧u5=.int .i64 (i:Int)∧Hid ((xs.take i).any (fun i=>decide (i.1=s))=false)∧St S (.box bx [.slice si.1 si.2.1 si.2.2,.slice sn.1 sn.2.1 sn.2.2,.int .i64 p.2.2.1,.int .i64 p.2.2.2.1] 87::M) wr) (fun v _=>xs.length - (intOf v).toNat)
 case atStart=>exact ⟨0,Nat.zero_le _,rfl,Lib.hid rfl,hst⟩
 case round =>
  clear hst;obtain ⟨i,hi2,rfl,hn,hst⟩:=hrel;by_cases hlt:i < xs.length
  ·obtain ⟨z,hz⟩:∃ z,decide (xs[i].1.b=s.b)=z:=⟨_,rfl⟩
   have hnx:=Lib.hid (LR (fun i=>decide (i.1=s)) xs hlt)
   cases z with
   | true =>
    repeat' (first|(with_reducible refine kB ?_;refine Ag hst (Aw rfl rfl Aa hz) ?_<;>(try refine nX ?_))|(apply gK ();go_step)|(with_reducible refine kL ?_;refine An hst (AL Ab Ak Aa) ?_;rintro v ⟨rfl,hs⟩<;>(try refine nX ?_))|apply sX ()|(apply sI ();intro v hp)|fail)
    go_ret;refine ⟨_,rfl,?_,hst.sub⟩;have h1:=hnx.out;rw [hn.out,IU,hz] at h1;rw [← HR.out,GE h1];rfl
   | false =>
    repeat' (first|(with_reducible refine kB ?_;refine Ag hst (Aw rfl rfl Aa hz) ?_<;>(try refine nX ?_))|(apply gK ();go_step)|(with_reducible refine kL ?_;refine An hst (AL Ab Ak Aa) ?_;rintro v ⟨rfl,hs⟩<;>(try refine nX ?_))|apply sX ()|(apply sI ();intro v hp)|fail)
    go_roundw
    case rel=>exact ⟨i+1,by omega,by go_num,Lib.hid (by rw [hnx.out,hn.out,IU,hz];rfl),hst⟩
    case measure=>simp [intOf];omega
  ·repeat' (first|(apply gK ();go_step)|apply sX ()|fail)
   go_ret;refine ⟨_,rfl,?_,hst.sub⟩;have h1:=hn.out;rw [List.take_of_length_le (by omega),HR.out] at h1;rw [h1];rfl
theorem Qs (s:By) (x:Nd) (r:List Nd) (i:Int):Fv s (x::r) i=if (x.1 == 11 && decide (x.2.2.1.b=s.b))=true then i else Fv s r (i+1):=by
 rw [Fv];by_cases h:x.1=11∧x.2.2.1=s
 ·rw [if_pos h,if_pos (by rw [← IU];simpa using h)]
 ·rw [if_neg h,if_neg (by rw [← IU];simpa using h)]
theorem Ns {S M} (w:World) (hst:St S M w) (si sn:Sv) (p:Pg) (hp:Du S si sn p) (s:By) :
  Ad Tryz.prog 110 [CR si sn p,.string ⟨s.b.toArray⟩] w fun v w'=>v=.int .i64 (Cl p s)∧St S M w':=by
 unfold Ad;have hi:=hp.n;have hl:=hp.ln;unfold Cl;generalize hxs:p.2.1=xs at *;clear hxs hp;obtain ⟨R,hR⟩:∃ R,Fv s xs 0=R:=⟨_,rfl⟩
 rw [hR];have HR:=Lib.hid hR;clear hR;go_enter Tryz.func110,Tryz.ntmps110;repeat' (first|(apply gK ();go_step)|(apply sB ();clear hst;intro bx w hst)|fail)
 go_loopw [5] (fun u5 wr=>∃ (i:Nat),i≤xs.length∧u5=.int .i64 (i:Int)∧Hid (Fv s (xs.drop i) (i:Int)=R)∧St S (.box bx [.slice si.1 si.2.1 si.2.2,.slice sn.1 sn.2.1 sn.2.2,.int .i64 p.2.2.1,.int .i64 p.2.2.2.1] 87::M) wr) (fun v _=>xs.length - (intOf v).toNat)
 case atStart=>exact ⟨0,Nat.zero_le _,rfl,HR,hst⟩
 case round =>
  clear hst HR;obtain ⟨i,hi2,rfl,HR,hst⟩:=hrel;by_cases hlt:i < xs.length
  ·have HN:=HR.out;rw [List.drop_eq_getElem_cons hlt,Qs] at HN;obtain ⟨z,hz⟩:∃ z,(xs[i].1 == 11)=z:=⟨_,rfl⟩
   obtain ⟨z2,hz2⟩:∃ z,decide (xs[i].2.2.1.b=s.b)=z:=⟨_,rfl⟩
   rw [hz,hz2] at HN;replace HN:=Lib.hid HN;clear HR
   cases z with
   | false =>
    repeat' (first|apply sK ()|apply sG ()|(apply gK ();go_step)|apply sX ()|(apply sN ();intro hI)|(apply sI ();intro v hp)|fail)
    apply VX ()
   | true =>
    cases z2 with
    | false =>
     repeat' (first|(with_reducible refine kB ?_;refine Ag hst (Aw rfl rfl Aa hz2) ?_<;>(try refine nX ?_))|apply sK ()|apply sG ()|(apply gK ();go_step)|(with_reducible refine kL ?_;refine An hst (AL Ab Ak Aa) ?_;rintro v ⟨rfl,hs⟩<;>(try refine nX ?_))|apply sX ()|(apply sN ();intro hI)|(apply sI ();intro v hp)|fail)
     apply VX ()
    | true =>
     repeat' (first|(with_reducible refine kB ?_;refine Ag hst (Aw rfl rfl Aa hz2) ?_<;>(try refine nX ?_))|apply sK ()|apply sG ()|(apply gK ();go_step)|(with_reducible refine kL ?_;refine An hst (AL Ab Ak Aa) ?_;rintro v ⟨rfl,hs⟩<;>(try refine nX ?_))|apply sX ()|(apply sN ();intro hI)|(apply sI ();intro v hp)|fail)
     go_ret;exact ⟨_,rfl,by rw [← HN.out];rfl,hst.sub⟩
  ·have HN:=HR.out;rw [List.drop_of_length_le (by omega)] at HN;replace HN:=Lib.hid HN;apply gw ()
section
variable {ns:List Nd}
structure fe (k:Int) (w r:Wk):Prop where
 n1:w.1≤r.1
 p1:w.2.1≤r.2.1
 ok:r.2.2=false→r.1=k+1∧r.2.1 - w.2.1≤r.1 - w.1
 n2:r.1≤max w.1 k+k+1
 p2:r.2.1 - w.2.1≤r.1 - w.1+1
structure lI (k:Int) (w:Wk) (r:Wk×Bool):Prop where
 n1:w.1≤r.1.1
 p1:w.2.1≤r.1.2.1
 gave:r.2=true→r.1.2.2=true∧r.1.1≤max w.1 k∧r.1.2.1 - w.2.1≤r.1.1 - w.1
 bad:r.2=false→r.1.2.2=true→r.1.1≤max w.1 k+k∧r.1.2.1 - w.2.1≤r.1.1 - w.1+1
 ok:r.1.2.2=false→r.1.1≤max w.1 k∧r.1.2.1 - w.2.1≤r.1.1 - w.1
theorem MV {rec:Int→Wk→Wk} {k:Int} (hk:0≤k) (h:∀ o w,0≤o→o < k→w.2.2=false→fe o w (rec o w)):∀ (os cs:List Int) (w:Wk),w.2.2=false→lI k w (BV rec ns k os cs w)
 | [],cs,w,hw=>by
  have e:BV rec ns k [] cs w=(w,false):=by cases cs<;>rfl
  apply gO ()
 | o::os,[],w,hw=>by
  have e:BV rec ns k (o::os) [] w=(w,false):=rfl;apply gO ()
 | o::os,c::cs,w,hw=>by
  rw [BV,if_neg (by rw [hw];decide)];by_cases hc:o < 0∨k≤o∨DQ (Ax ns o).1≠c
  ·rw [if_pos hc];exact ⟨Int.le_refl _,Int.le_refl _,fun _=>⟨rfl,by simp only;omega,by simp only;omega⟩,fun h=>(by cases h),fun h=>(by cases h)⟩
  ·rw [if_neg hc];have b:=h o w (by omega) (by omega) hw;have hn1:=b.n1;have hp1:=b.p1;have hn2:=b.n2;have hp2:=b.p2
   cases hb:(rec o w).2.2 with
   | true =>
    have e:BV rec ns k os cs (rec o w)=(rec o w,false):=by
     cases os with
     | nil=>cases cs<;>rfl
     | cons o' os=>cases cs with
      | nil=>rfl
      | cons c' cs=>rw [BV,if_pos hb]
    rw [e];exact ⟨hn1,hp1,fun h=>(by cases h),fun _ _=>⟨by simp only;omega,hp2⟩,fun h=>(by rw [hb] at h;cases h)⟩
   | false =>
    have i:=MV hk h os cs (rec o w) hb;have ho:=b.ok hb;have in1:=i.n1;have ip1:=i.p1;exact ⟨by omega,by omega,fun h=>(by have:=i.gave h;exact ⟨this.1,by omega,by omega⟩),fun h1 h2=>(by have:=i.bad h1 h2;exact ⟨by omega,by omega⟩),fun h=>(by have:=i.ok h;exact ⟨by omega,by omega⟩)⟩
theorem JV:∀ (f:Nat) (k:Int) (w:Wk),0≤k→w.2.2=false→fe k w (DY ns f k w)
 | 0,k,w,hk,hw=>⟨Int.le_refl _,Int.le_refl _,fun h=>(by cases h),by show w.1≤_;omega,by show w.2.1 - w.2.1≤w.1 - w.1+1;omega⟩
 | f+1,k,w,hk,hw=>by
  rw [DY];split
  ·exact ⟨Int.le_refl _,Int.le_refl _,fun h=>(by cases h),by show w.1≤_;omega,by show w.2.1 - w.2.1≤w.1 - w.1+1;omega⟩
  ·have i:=MV (ns:=ns) (rec:=DY ns f) hk (fun o w ho hok hw=>JV f o w ho hw) (Ax ns k).2.2.2.1 (Fh (Ax ns k).1 (Ax ns k).2.2.2.1.length) (w.1,if (Ax ns k).1=12 then w.2.1+1 else w.2.1,w.2.2) hw;have hpt:w.2.1≤(if (Ax ns k).1=12 then w.2.1+1 else w.2.1)∧(if (Ax ns k).1=12 then w.2.1+1 else w.2.1)≤w.2.1+1:=by split<;>omega
   generalize (if (Ax ns k).1=12 then w.2.1+1 else w.2.1)=q at *;simp only;generalize BV (DY ns f) ns k (Ax ns k).2.2.2.1 (Fh (Ax ns k).1 (Ax ns k).2.2.2.1.length) (w.1,q,w.2.2)=r at *;have i1:=i.n1;have i2:=i.p1;have i3:=i.gave;have i4:=i.bad;have i5:=i.ok;simp only at i1 i2 i3 i4 i5;split
   ·rename_i hg;have:=i3 hg;exact ⟨i1,by omega,fun h=>(by rw [this.1] at h;cases h),by omega,by omega⟩
   ·rename_i hg;have hg:r.2=false:=by simpa using hg
    cases hb:r.1.2.2 with
    | true =>
     have:=i4 hg hb;exact ⟨by simp only;omega,by simp only;omega,fun h=>(by cases h),by simp only;omega,by simp only;omega⟩
    | false =>
     have:=i5 hb;refine ⟨by simp only;omega,by simp only;omega,fun h=>?_,by simp only;omega,by simp only;omega⟩;simp only [Bool.false_or,bne_eq_false_iff_eq] at h;simp only;omega
end
end Go.Proofs.YtmmbidoldegemaaGreatDoor
