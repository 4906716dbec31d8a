/- Part 32 of a proof; no conditions. -/
import Derived.Test.YtmmbidoldegemaaGreatDoorZ30
set_option linter.all false
set_option maxRecDepth 8000
set_option maxHeartbeats 8000000
namespace Go.Proofs.YtmmbidoldegemaaGreatDoor
open Go.RowKit Go.Sl Go.Proofs.Tryz
theorem JJ {S M} (w) (V:St S M w) (n):Ac prog 116 [.int .i64 n] w fun v w'=>v=.int .i64 (EZ n)∧St S M w':=by
 unfold Ac
 have h:n.tmod 65536=n % 65536∨(n % 65536≠0∧n.tmod 65536=n % 65536 - 65536):=by
  rcases Int.le_total 0 n with h|h
  ·exact .inl (Int.tmod_eq_emod_of_nonneg h)
  ·have e:n.tmod 65536 = -((-n).tmod 65536):=by rw [Int.neg_tmod,Int.neg_neg]
   rw [e,Int.tmod_eq_emod_of_nonneg (by omega)];omega
 by_cases hn:n.tmod 65536 < 0
 ·go_enter func116,ntmps116;repeat' (first|(apply O ();go_step)|fail)
  go_ret;refine ⟨_,rfl,?_,V⟩;show Value.int .i64 _=Value.int .i64 _
  congr 1
  unfold EZ;try unfold wrap64
  omega
 ·go_enter func116,ntmps116;repeat' (first|(apply O ();go_step)|fail)
  go_ret;refine ⟨_,rfl,?_,V⟩;show Value.int .i64 _=Value.int .i64 _
  congr 1
  unfold EZ;omega
theorem F8 {S M} (w) (V:St S M w) (b):Ac prog 119 [.bool b] w fun v w'=>v=.int .i64 (En b)∧St S M w':=by
 unfold Ac;cases b
 all_goals
  go_enter func119,ntmps119;apply W8 ()
theorem Pp {S M} (w) (V:St S M w) (vs xs) (hxs:RSl S vs xs) (hm:xs.length≤1048576) (x):
  Ac prog 120 [vs,.int .i64 x] w fun v w'=>v=.bool (xs.contains x)∧St S M w':=by
 unfold Ac;have k1:=hxs.oneCell;go_enter func120,ntmps120;repeat' (first|(apply O ();go_step)|fail)
 go_loopw [5] (fun v wr=>∃ k:Nat,k≤xs.length∧v=.int .i64 k∧(∀ j (h:j < xs.length),j < k→xs[j]≠x)∧St S M wr) (fun v _=>xs.length - (intOf v).toNat)
 case atStart=>exact ⟨0,Nat.zero_le _,rfl,fun j _ h=>absurd h (Nat.not_lt_zero _),V⟩
 case round =>
  clear V;obtain ⟨k,hk,rfl,hno,V⟩:=hrel;have hno:=Lib.hid hno;by_cases hlt:k < xs.length
  ·by_cases hx:xs[k]=x
   ·repeat' (first|(apply O ();go_step)|apply sX ()|(apply sN ();intro hI)|(apply sI ();intro v L)|fail)
    go_ret;exact ⟨_,rfl,by rw [List.contains_iff_mem.2 (hx▸List.getElem_mem hlt)];rfl,V⟩
   ·repeat' (first|(apply O ();go_step)|apply sX ()|(apply sN ();intro hI)|(apply sI ();intro v L)|fail)
    go_roundw
    case rel =>
     refine ⟨k+1,by omega,by go_num,fun j h1 h2=>?_,V⟩;rcases Nat.lt_succ_iff_lt_or_eq.1 h2 with h|rfl
     ·exact hno.out j h1 h
     ·exact hx
    case measure=>simp [intOf];omega
  ·repeat' (first|(apply O ();go_step)|apply sX ()|fail)
   go_ret;refine ⟨_,rfl,?_,V⟩
   have:xs.contains x=false:=by
    rw [Bool.eq_false_iff];intro h;obtain ⟨j,hj,e⟩:=List.mem_iff_getElem.1 (List.contains_iff_mem.1 h);exact hno.out j hj (by omega) e
   rw [this];rfl
def Ih (op:Int):Int:=if op=1∨op=2∨op=13∨op=15∨op=16∨op=17 then 0 else if op=3∨op=11∨op=12∨op=14 then 1 else if 4≤op∧op≤10 then 2 else -1
theorem Yl {S M} (w) (V:St S M w) (op) (h:¬ (1≤op∧op < 18)):Ac prog 115 [.int .i64 op] w fun v w'=>v=.int .i64 (-1)∧St S M w':=by
 unfold Ac;have e1:op≠1:=by omega
 have e2:op≠2:=by omega
 have e3:op≠3:=by omega
 have e4:op≠4:=by omega
 have e5:op≠5:=by omega
 have e6:op≠6:=by omega
 have e7:op≠7:=by omega
 have e8:op≠8:=by omega
 have e9:op≠9:=by omega
 have e10:op≠10:=by omega
 have e11:op≠11:=by omega
 have e12:op≠12:=by omega
 have e13:op≠13:=by omega
 have e14:op≠14:=by omega
 have e15:op≠15:=by omega
 have e16:op≠16:=by omega
 have e17:op≠17:=by omega
 go_enter func115,ntmps115;apply W8 ()
theorem BI {S M} (w) (V:St S M w) (op) (h:1≤op∧op < 18):Ac prog 115 [.int .i64 op] w fun v w'=>v=.int .i64 (Ih op)∧St S M w':=by
 have hc:op=1∨op=2∨op=3∨op=4∨op=5∨op=6∨op=7∨op=8∨op=9∨op=10∨op=11∨op=12∨op=13∨op=14∨op=15∨op=16∨op=17:=by omega
 unfold Ac;rcases hc with rfl|rfl|rfl|rfl|rfl|rfl|rfl|rfl|rfl|rfl|rfl|rfl|rfl|rfl|rfl|rfl|rfl
 all_goals
  go_enter func115,ntmps115;apply W8 ()
theorem bt {S M} (w) (V:St S M w) (vs xs) (hxs:RSl S vs xs) (hm:xs.length≤1048576) (k) (hk:k < xs.length) (x) (hx:Au x):
  Ac prog 117 [vs,.int .i64 (k:Int),.int .i64 x] w fun v w'=>∃ S',S.Le S'∧RSl S' v (C6 xs k x)∧St S' M w':=by
 unfold Ac;have k1:=hxs.oneCell;go_enter func117,ntmps117;repeat' (first|(apply O ();go_step)|fail)
 refine Ay (vs:=[]) (cs:=[]) V Y Y rfl rfl (by simp) rfl (by omega) (by omega) ?_;clear V;intro x0 w V;apply nW ();repeat' (first|(apply O ();go_step)|fail)
 refine Bj (α:=Int) (k:=0) V X X rfl hxs Y Y Y (by omega) (by omega) (by decide) ?_;clear V;intro x2 w c2 hc2 V;apply nW ();obtain rfl:=FI hc2;clear hc2;rw [show (0+xs.length)=xs.length from Nat.zero_add _] at V;have V:St S (.sl x2 3 1 xs.length (cF Ba xs)::M) w:=V;have hone:=Go.Sl.AY V;repeat' (first|(apply tI ();(refine An V (Ao V X SlIn.h rfl Y Y Af Af) ?_);rintro v L;(try simp only [Int.toNat_natCast,Int.toNat_natCast_add_one,Int.reduceToNat] at L)<;>apply nW ())|(apply tS ();refine Tu V X Ak SlIn.h Y X Af ?_;clear V;intro w V<;>apply nW ()<;>(try replace V:=nH V))|(apply O ();go_step)|fail)
 go_ret;have fz:=Go.Sl.Ex (xs.set k x) V rfl (fun y hy=>(List.mem_or_eq_of_mem_set hy).elim (PU hxs y) (fun e=>e▸hx)) (by rw [List.length_set]);obtain ⟨S2,hS2,hst2,hv⟩:=fz;exact ⟨_,rfl,S2,hS2,hv,hst2⟩
theorem jo (a b:Int):(a == b)=decide (a=b):=by rw [Bool.eq_iff_iff];simp
theorem jf (a:Int):(a != 0)=decide (a≠0):=by rw [Bool.eq_iff_iff];simp
theorem dc {a b} (ha:DA a) (hb:DA b):0≤a * b∧a * b≤4294836225:=fN ha hb
theorem VL {S M} (w) (V:St S M w) (op a b) (h:4≤op∧op≤10) (ha:DA a) (hb:DA b):Ac prog 118 [.int .i64 op,.int .i64 a,.int .i64 b] w fun v w'=>v=.int .i64 (IX op a b)∧St S M w':=by
 have hm:=dc ha hb;unfold DA at ha hb;have hc:op=4∨op=5∨op=6∨op=7∨op=8∨op=9∨op=10:=by omega
 unfold Ac;rcases hc with rfl|rfl|rfl|rfl|rfl|rfl|rfl
 ·go_enter func118,ntmps118;repeat' (first|(apply O ();go_step)|(apply kc ();refine sc (JJ _ V (a+b)) ?_;clear V;rintro v w ⟨rfl,V⟩)|fail)
  go_ret;exact ⟨_,rfl,rfl,V⟩
 ·go_enter func118,ntmps118;repeat' (first|(apply O ();go_step)|(apply kc ();refine sc (JJ _ V (a - b)) ?_;clear V;rintro v w ⟨rfl,V⟩)|fail)
  go_ret;exact ⟨_,rfl,rfl,V⟩
 ·go_enter func118,ntmps118;repeat' (first|(apply O ();go_step)|(apply kc ();refine sc (JJ _ V (a * b)) ?_;clear V;rintro v w ⟨rfl,V⟩)|fail)
  go_ret;exact ⟨_,rfl,rfl,V⟩
 ·go_enter func118,ntmps118;repeat' (first|(apply O ();go_step)|(apply kc ();refine sc (F8 _ V (decide (a < b))) ?_;clear V;rintro v w ⟨rfl,V⟩)|fail)
  go_ret;exact ⟨_,rfl,rfl,V⟩
 ·go_enter func118,ntmps118;repeat' (first|(apply O ();go_step)|(apply kc ();refine sc (F8 _ V (a == b)) ?_;clear V;rintro v w ⟨rfl,V⟩)|fail)
  go_ret;exact ⟨_,rfl,by rw [jo];rfl,V⟩
 ·by_cases h0:a=0
  ·subst h0;go_enter func118,ntmps118;repeat' (first|go_skip|(apply O ();go_step)|(apply kc ();refine sc (F8 _ V false) ?_;clear V;rintro v w ⟨rfl,V⟩)|fail)
   all_goals (try (exfalso;omega))
   go_ret;exact ⟨_,rfl,rfl,V⟩
  ·go_enter func118,ntmps118;repeat' (first|go_skip|apply sG ()|(with_reducible refine Sl.k_guard ?_;refine Sl.guard_cases rfl ?_ ?_<;>intro hg<;>(simp only [hg,Bool.not_true,Bool.not_false])<;>(try replace hg:=gN hg)<;>apply nW ())|(apply O ();go_step)|(apply kc ();refine sc (F8 _ V (b != 0)) ?_;clear V;rintro v w ⟨rfl,V⟩)|fail)
   all_goals (try (exfalso;omega))
   go_ret;exact ⟨_,rfl,by rw [jf];simp [IX,h0],V⟩
 ·by_cases h0:a=0
  ·subst h0;go_enter func118,ntmps118;repeat' (first|apply sG ()|(apply O ();go_step)|(apply kc ();refine sc (F8 _ V (b != 0)) ?_;clear V;rintro v w ⟨rfl,V⟩)|fail)
   all_goals (try (exfalso;omega))
   go_ret;exact ⟨_,rfl,by rw [jf];simp [IX],V⟩
  ·go_enter func118,ntmps118;repeat' (first|go_skip|apply sG ()|(with_reducible refine Sl.k_guard ?_;refine Sl.guard_cases rfl ?_ ?_<;>intro hg<;>(simp only [hg,Bool.not_true,Bool.not_false])<;>(try replace hg:=gN hg)<;>apply nW ())|(apply O ();go_step)|(apply kc ();refine sc (F8 _ V true) ?_;clear V;rintro v w ⟨rfl,V⟩)|fail)
   all_goals (try (exfalso;omega))
   go_ret;exact ⟨_,rfl,by simp [IX,h0],V⟩
abbrev MW (s:VS) (vv vs vp vn:Value) (e:Int):List Value:=[.int .i64 s.pc,vv,vs,vp,vn,.int .i64 s.fin,.int .i64 (s.steps:Int),.int .i64 (s.br:Int),.bool s.done,.int .i64 e]
abbrev BU (s:VS) (vv vs vp vn:Value) (e:Int):Value:=.agg #[.int .i64 s.pc,vv,vs,vp,vn,.int .i64 s.fin,.int .i64 (s.steps:Int),.int .i64 (s.br:Int),.bool s.done,.int .i64 e]
abbrev Da (S:Ad) (M:List J) (t:VS) (v:Value) (w:World):Prop :=
 ∃ S' vv vs vp vn,S.Le S'∧v=BU t vv vs vp vn 0∧RSl S' vv t.vars∧RSl S' vs t.stack∧RSl S' vp t.pts∧RSl S' vn t.notes∧St S' M w
abbrev D4 (S:Ad) (M:List J) (e:Nat) (v:Value) (w:World):Prop :=
 ∃ S' t vv vs vp vn,S.Le S'∧v=BU t vv vs vp vn (e:Int)∧vv.oneCell'=true∧vs.oneCell'=true∧vp.oneCell'=true∧vn.oneCell'=true∧St S' M w
def LS (S:Ad) (M:List J):VR→Value→World→Prop
 | .ok t,v,w=>Da S M t v w
 | .err e,v,w=>D4 S M e v w
section
variable {S:Ad} {M:List J} {vi vg:Value} {c:B9} {s:VS} {vv vs vp vn:Value}
set_option maxRecDepth 60000 in
theorem aR (w:World) (V:St S M w) (hvi:RSl S vi c.1) (hvv:RSl S vv s.vars) (hvs:RSl S vs s.stack) (hvp:RSl S vp s.pts) (hvn:RSl S vn s.notes) (h3:¬ s.steps < 3000) :
  Ac prog 72 [Bs vi c,BU s vv vs vp vn 0,vg] w fun v w'=>D4 S M 20 v w':=by
 unfold Ac;obtain ⟨ai,ni,ci,rfl⟩:=Ae hvi;obtain ⟨av,nv,cv,rfl⟩:=Ae hvv;obtain ⟨az,nz,cz,rfl⟩:=Ae hvs;obtain ⟨ap,np,cp,rfl⟩:=Ae hvp;obtain ⟨an,nn,cn,rfl⟩:=Ae hvn;go_enter func72,ntmps72;repeat' (first|(apply O ();go_step)|apply sX ()|(apply sS ();clear V;intro w V)|(apply sB ();clear V;intro bx w V)|(apply sA ();clear V;intro bk w V)|fail)
 apply gV ()
set_option maxRecDepth 60000 in
theorem aV (w:World) (V:St S M w) (hvi:RSl S vi c.1) (hvm:c.1.length≤1048576) (hvv:RSl S vv s.vars) (hvs:RSl S vs s.stack) (hvp:RSl S vp s.pts) (hvn:RSl S vn s.notes) (h3:s.steps < 3000) (hp0:0≤s.pc) (hp1:s.pc < c.1.length) (gd:Br c s) {a b:Int} {u:Unit}
  (hi:c.1[s.pc.toNat]'(by omega)=(13,a,b,u)) :
  Ac prog 72 [Bs vi c,BU s vv vs vp vn 0,vg] w fun v w'=>Da S M { BO s with pc:=a } v w':=by
 unfold Ac;obtain ⟨ai,ni,ci,rfl⟩:=Ae hvi;obtain ⟨av,nv,cv,rfl⟩:=Ae hvv;obtain ⟨az,nz,cz,rfl⟩:=Ae hvs;obtain ⟨ap,np,cp,rfl⟩:=Ae hvp;obtain ⟨an,nn,cn,rfl⟩:=Ae hvn;have hsl:=gd.slen;have rp:∀ (M:List J) (w:World),St S M w→Ac prog 115 [.int .i64 13] w fun v w'=>v=.int .i64 0∧St S M w':=fun M w V=>BI w V 13 (by decide)
 go_enter func72,ntmps72;repeat' ((apply ZZ 8);first|apply sG ()|(with_reducible refine Sl.k_guard ?_;refine Sl.guard_cases rfl ?_ ?_<;>intro hg<;>first|exact gX|(simp only [hg,Bool.not_true,Bool.not_false])<;>(try replace hg:=gN hg)<;>apply nW ())|(apply O ();go_step)|apply sX ()|apply sP ()|(apply sI ();intro v L)|(apply sS ();clear V;intro w V)|(apply sB ();clear V;intro bx w V)|(apply sA ();clear V;intro bk w V)|fail)
 rw [hi] at V L ⊢;simp only [Ee] at V ⊢;repeat' (first|apply sG ()|(apply O ();go_step)|(apply kc ();refine sc (rp _ _ V) ?_;clear V;rintro v w ⟨rfl,V⟩)|apply sX ()|fail)
 refine CG (a:=0) (b:=s.stack.length) X hvs Y Y (.inl ⟨rfl,rfl⟩) (.inr ⟨.i64,by simp [Ai,AV]⟩) (.inl rfl) (by omega) (by omega) ?_;intro vz hvz;rw [List.drop_zero,Nat.sub_zero] at hvz;obtain ⟨ay,ny,cy,rfl⟩:=Ae hvz;apply nW ();repeat' (first|(apply O ();go_step)|apply sX ()|(apply sS ();clear V;intro w V)|fail)
 refine Bl rfl V rfl 1 rfl inferInstance rfl rfl ?_;exact ⟨_,rfl,S,_,_,_,_,Ad.Le.refl _,rfl,hvv,by rw [List.take_length] at hvz;exact hvz,hvp,hvn,V.drop.drop.drop.drop⟩
end
section
variable {S:Ad} {M:List J} {vi vg:Value} {c:B9} {s:VS} {vv vs vp vn:Value}
set_option maxRecDepth 60000 in
theorem eP (w:World) (V:St S M w) (hvi:RSl S vi c.1) (hvm:c.1.length≤1048576) (hvv:RSl S vv s.vars) (hvs:RSl S vs s.stack) (hvp:RSl S vp s.pts) (hvn:RSl S vn s.notes) (h3:s.steps < 3000) (hp0:0≤s.pc) (hp1:s.pc < c.1.length) (gd:Br c s) {a b:Int} {u:Unit}
  (hi:c.1[s.pc.toNat]'(by omega)=(1,a,b,u)) (hlen:s.stack.length < 400) :
  Ac prog 72 [Bs vi c,BU s vv vs vp vn 0,vg] w fun v w'=>Da S M { BO s with stack:=s.stack++[EZ a] } v w':=by
 unfold Ac;obtain ⟨ai,ni,ci,rfl⟩:=Ae hvi;obtain ⟨av,nv,cv,rfl⟩:=Ae hvv;obtain ⟨az,nz,cz,rfl⟩:=Ae hvs;obtain ⟨ap,np,cp,rfl⟩:=Ae hvp;obtain ⟨an,nn,cn,rfl⟩:=Ae hvn;have hsl:=gd.slen;have rp:∀ (M:List J) (w:World),St S M w→Ac prog 115 [.int .i64 1] w fun v w'=>v=.int .i64 0∧St S M w':=fun M w V=>BI w V 1 (by decide)
 go_enter func72,ntmps72;repeat' ((apply ZZ 8);first|apply sG ()|(with_reducible refine Sl.k_guard ?_;refine Sl.guard_cases rfl ?_ ?_<;>intro hg<;>first|exact gX|(simp only [hg,Bool.not_true,Bool.not_false])<;>(try replace hg:=gN hg)<;>apply nW ())|(apply O ();go_step)|apply sX ()|apply sP ()|(apply sI ();intro v L)|(apply sS ();clear V;intro w V)|(apply sB ();clear V;intro bx w V)|(apply sA ();clear V;intro bk w V)|fail)
 rw [hi] at V L ⊢;simp only [Ee] at V ⊢;repeat' (first|apply sG ()|(apply O ();go_step)|(apply kc ();refine sc (rp _ _ V) ?_;clear V;rintro v w ⟨rfl,V⟩)|apply sX ()|fail)
 refine CG (a:=0) (b:=s.stack.length) X hvs Y Y (.inl ⟨rfl,rfl⟩) (.inr ⟨.i64,by simp [Ai,AV]⟩) (.inl rfl) (by omega) (by omega) ?_;intro vz hvz;rw [List.drop_zero,Nat.sub_zero,List.take_length] at hvz;obtain ⟨ay,ny,cy,rfl⟩:=Ae hvz;apply nW ();have hzin:=gd.stack;have hw:=J2 a;have hw0:=hw.1;have rw1:=fun (M:List J) (w:World) (V:St S M w)=>JJ w V a
 repeat' (first|(apply O ();go_step)|(apply kc ();refine sc (rw1 _ _ V) ?_;clear V;rintro v w ⟨rfl,V⟩)|apply sX ()|(apply sS ();clear V;intro w V)|fail)
 refine Ay (vs:=[]) (cs:=[]) V Y Y rfl rfl (by simp) rfl (by omega) (by omega) ?_;clear V;intro x0 w V;apply nW ();repeat' (first|apply sX ()|fail)
 refine Bj (α:=Int) (k:=0) V X X rfl hvz Y Y Y (by omega) (by omega) (by decide) ?_;clear V;intro x2 w c2 hc2 V;apply nW ();obtain rfl:=FI hc2;clear hc2;repeat' (first|(apply O ();go_step)|fail)
 refine Ay (vs:=[.int .i64 (EZ a)]) (cs:=cF Ba [(EZ a)]) V Y Y rfl rfl (by simp [Value.cells]) rfl (by omega) (by omega) ?_;clear V;intro x11 w V;apply nW ();refine AF (k:=1) (j:=0) V X X rfl rfl Y Y Y (by simp [cF,Ba,Value.oneCell']) (by omega) (by omega) (by decide) ?_;clear V;intro x12 w V;apply nW ();simp only [List.set_cons_succ,List.set_cons_zero] at V;replace V:=V.drop;have fz:=GU (s.stack++[(EZ a)]) (fun y hy=>IN (GY hzin hw y hy)) V (by simp only [IV,List.nil_append]) (by simp only [List.length_append,List.length_cons,List.length_nil];omega);clear V;obtain ⟨S2,hS2,V,hsz⟩:=fz;obtain ⟨ax,nx,cx,rfl⟩:=Ae hsz;apply am ()
set_option maxRecDepth 60000 in
theorem aT (w:World) (V:St S M w) (hvi:RSl S vi c.1) (hvm:c.1.length≤1048576) (hvv:RSl S vv s.vars) (hvs:RSl S vs s.stack) (hvp:RSl S vp s.pts) (hvn:RSl S vn s.notes) (h3:s.steps < 3000) (hp0:0≤s.pc) (hp1:s.pc < c.1.length) (gd:Br c s) {a b:Int} {u:Unit}
  (hi:c.1[s.pc.toNat]'(by omega)=(15,a,b,u))  :
  Ac prog 72 [Bs vi c,BU s vv vs vp vn 0,vg] w fun v w'=>Da S M { BO s with fin:=a,done:=true } v w':=by
 unfold Ac;obtain ⟨ai,ni,ci,rfl⟩:=Ae hvi;obtain ⟨av,nv,cv,rfl⟩:=Ae hvv;obtain ⟨az,nz,cz,rfl⟩:=Ae hvs;obtain ⟨ap,np,cp,rfl⟩:=Ae hvp;obtain ⟨an,nn,cn,rfl⟩:=Ae hvn;have hsl:=gd.slen;have rp:∀ (M:List J) (w:World),St S M w→Ac prog 115 [.int .i64 15] w fun v w'=>v=.int .i64 0∧St S M w':=fun M w V=>BI w V 15 (by decide)
 apply ky ()
set_option maxRecDepth 60000 in
theorem aS (w:World) (V:St S M w) (hvi:RSl S vi c.1) (hvm:c.1.length≤1048576) (hvv:RSl S vv s.vars) (hvs:RSl S vs s.stack) (hvp:RSl S vp s.pts) (hvn:RSl S vn s.notes) (h3:s.steps < 3000) (hp0:0≤s.pc) (hp1:s.pc < c.1.length) (gd:Br c s) {a b:Int} {u:Unit}
  (hi:c.1[s.pc.toNat]'(by omega)=(16,a,b,u))  :
  Ac prog 72 [Bs vi c,BU s vv vs vp vn 0,vg] w fun v w'=>Da S M { BO s with done:=true } v w':=by
 unfold Ac;obtain ⟨ai,ni,ci,rfl⟩:=Ae hvi;obtain ⟨av,nv,cv,rfl⟩:=Ae hvv;obtain ⟨az,nz,cz,rfl⟩:=Ae hvs;obtain ⟨ap,np,cp,rfl⟩:=Ae hvp;obtain ⟨an,nn,cn,rfl⟩:=Ae hvn;have hsl:=gd.slen;have rp:∀ (M:List J) (w:World),St S M w→Ac prog 115 [.int .i64 16] w fun v w'=>v=.int .i64 0∧St S M w':=fun M w V=>BI w V 16 (by decide)
 apply ky ()
end
section
variable {S:Ad} {M:List J} {vi vg:Value} {c:B9} {s:VS} {vv vs vp vn:Value}
theorem Gd {s} (h:1≤s.stack.length):s.stack[((s.stack.length:Int) - 1).toNat]'(by omega)=Bw s:=by
 have e:((s.stack.length:Int) - 1).toNat=s.stack.length - 1:=by omega
 simp only [e];exact (LJ (by omega)).symm
theorem XG {s} (h:2≤s.stack.length):s.stack[((s.stack.length:Int) - 2).toNat]'(by omega)=Bw (BJ s):=by
 have e:((s.stack.length:Int) - 2).toNat=s.stack.length - 2:=by omega
 simp only [e];unfold Bw BJ;simp only [List.length_take];have e2:min (s.stack.length - 1) s.stack.length - 1=s.stack.length - 2:=by omega
 rw [e2,List.getD_eq_getElem?_getD,List.getElem?_take_of_lt (by omega),List.getElem?_eq_getElem (by omega)];rfl
theorem F6 {S M} (w) (V:St S M w) (vs xs) (hxs:RSl S vs xs) (hm:xs.length≤1048576) (k) (hk:k < xs.length) (x) (hx:Au x):
  Ac prog 117 [vs,.int .i64 (k:Int),.int .i64 x] w fun v w'=>∃ S' a n c,S.Le S'∧v=.slice a n c∧RSl S' (.slice a n c) (C6 xs k x)∧St S' M w' :=
 (bt w V vs xs hxs hm k hk x hx).mono fun v w' ⟨S',h1,h2,h3⟩=>by
  obtain ⟨a,n,c,rfl⟩:=Ae h2;exact ⟨S',a,n,c,h1,rfl,h2,h3⟩
end
section
variable {S:Ad} {M:List J} {vi vg:Value} {c:B9} {s:VS} {vv vs vp vn:Value}
set_option maxRecDepth 60000 in
theorem eO (w:World) (V:St S M w) (hvi:RSl S vi c.1) (hvm:c.1.length≤1048576) (hvv:RSl S vv s.vars) (hvs:RSl S vs s.stack) (hvp:RSl S vp s.pts) (hvn:RSl S vn s.notes) (h3:s.steps < 3000) (hp0:0≤s.pc) (hp1:s.pc < c.1.length) (gd:Br c s) {a b:Int} {u:Unit}
  (hi:c.1[s.pc.toNat]'(by omega)=(2,a,b,u)) (ha0:0≤a) (ha1:a < s.vars.length) (hlen:s.stack.length < 400) :
  Ac prog 72 [Bs vi c,BU s vv vs vp vn 0,vg] w fun v w'=>Da S M { BO s with stack:=s.stack++[s.vars[a.toNat]'(by omega)] } v w':=by
 unfold Ac;obtain ⟨ai,ni,ci,rfl⟩:=Ae hvi;obtain ⟨av,nv,cv,rfl⟩:=Ae hvv;obtain ⟨az,nz,cz,rfl⟩:=Ae hvs;obtain ⟨ap,np,cp,rfl⟩:=Ae hvp;obtain ⟨an,nn,cn,rfl⟩:=Ae hvn;have hsl:=gd.slen;have rp:∀ (M:List J) (w:World),St S M w→Ac prog 115 [.int .i64 2] w fun v w'=>v=.int .i64 0∧St S M w':=fun M w V=>BI w V 2 (by decide)
 go_enter func72,ntmps72;repeat' ((apply ZZ 8);first|apply sG ()|(with_reducible refine Sl.k_guard ?_;refine Sl.guard_cases rfl ?_ ?_<;>intro hg<;>first|exact gX|(simp only [hg,Bool.not_true,Bool.not_false])<;>(try replace hg:=gN hg)<;>apply nW ())|(apply O ();go_step)|apply sX ()|apply sP ()|(apply sI ();intro v L)|(apply sS ();clear V;intro w V)|(apply sB ();clear V;intro bx w V)|(apply sA ();clear V;intro bk w V)|fail)
 rw [hi] at V L ⊢;simp only [Ee] at V ⊢;obtain ⟨k,rfl⟩:∃ k:Nat,a=(k:Int):=⟨a.toNat,by omega⟩
 (try simp only [Int.toNat_natCast]);repeat' (first|go_skip|apply sG ()|(apply O ();go_step)|(apply kc ();refine sc (rp _ _ V) ?_;clear V;rintro v w ⟨rfl,V⟩)|apply sX ()|fail)
 refine CG (a:=0) (b:=s.stack.length) X hvs Y Y (.inl ⟨rfl,rfl⟩) (.inr ⟨.i64,by simp [Ai,AV]⟩) (.inl rfl) (by omega) (by omega) ?_;intro vz hvz;rw [List.drop_zero,Nat.sub_zero,List.take_length] at hvz;obtain ⟨ay,ny,cy,rfl⟩:=Ae hvz;apply nW ();have hzin:=gd.stack;have hw:=gd.vars _ (List.getElem_mem (show k < s.vars.length by omega));have hw0:=hw.1;repeat' (first|(apply O ();go_step)|apply sX ()|(apply sN ();intro hI)|(apply sI ();intro v L)|(apply sS ();clear V;intro w V)|fail)
 refine Ay (vs:=[]) (cs:=[]) V Y Y rfl rfl (by simp) rfl (by omega) (by omega) ?_;clear V;intro x0 w V;apply nW ();repeat' (first|apply sX ()|fail)
 refine Bj (α:=Int) (k:=0) V X X rfl hvz Y Y Y (by omega) (by omega) (by decide) ?_;clear V;intro x2 w c2 hc2 V;apply nW ();obtain rfl:=FI hc2;clear hc2;repeat' (first|(apply O ();go_step)|fail)
 refine Ay (vs:=[.int .i64 (s.vars[k]'(by omega))]) (cs:=cF Ba [(s.vars[k]'(by omega))]) V Y Y rfl rfl (by simp [Value.cells]) rfl (by omega) (by omega) ?_;clear V;intro x11 w V;apply nW ();refine AF (k:=1) (j:=0) V X X rfl rfl Y Y Y (by simp [cF,Ba,Value.oneCell']) (by omega) (by omega) (by decide) ?_;clear V;intro x12 w V;apply nW ();simp only [List.set_cons_succ,List.set_cons_zero] at V;replace V:=V.drop;have fz:=GU (s.stack++[(s.vars[k]'(by omega))]) (fun y hy=>IN (GY hzin hw y hy)) V (by simp only [IV,List.nil_append]) (by simp only [List.length_append,List.length_cons,List.length_nil];omega);clear V;obtain ⟨S2,hS2,V,hsz⟩:=fz;obtain ⟨ax,nx,cx,rfl⟩:=Ae hsz;apply am ()
set_option maxRecDepth 60000 in
theorem eN (w:World) (V:St S M w) (hvi:RSl S vi c.1) (hvm:c.1.length≤1048576) (hvv:RSl S vv s.vars) (hvs:RSl S vs s.stack) (hvp:RSl S vp s.pts) (hvn:RSl S vn s.notes) (h3:s.steps < 3000) (hp0:0≤s.pc) (hp1:s.pc < c.1.length) (gd:Br c s) {a b:Int} {u:Unit}
  (hi:c.1[s.pc.toNat]'(by omega)=(3,a,b,u)) (ha0:0≤a) (ha1:a < s.vars.length) (hn:1≤s.stack.length) (hvl:s.vars.length≤400) :
  Ac prog 72 [Bs vi c,BU s vv vs vp vn 0,vg] w fun v w'=>Da S M { BO s with stack:=s.stack.take (s.stack.length - 1),vars:=C6 s.vars a (Bw s) } v w':=by
 unfold Ac;obtain ⟨ai,ni,ci,rfl⟩:=Ae hvi;obtain ⟨av,nv,cv,rfl⟩:=Ae hvv;obtain ⟨az,nz,cz,rfl⟩:=Ae hvs;obtain ⟨ap,np,cp,rfl⟩:=Ae hvp;obtain ⟨an,nn,cn,rfl⟩:=Ae hvn;have hsl:=gd.slen;have rp:∀ (M:List J) (w:World),St S M w→Ac prog 115 [.int .i64 3] w fun v w'=>v=.int .i64 1∧St S M w':=fun M w V=>BI w V 3 (by decide)
 go_enter func72,ntmps72;repeat' ((apply ZZ 8);first|apply sG ()|(with_reducible refine Sl.k_guard ?_;refine Sl.guard_cases rfl ?_ ?_<;>intro hg<;>first|exact gX|(simp only [hg,Bool.not_true,Bool.not_false])<;>(try replace hg:=gN hg)<;>apply nW ())|(apply O ();go_step)|apply sX ()|apply sP ()|(apply sI ();intro v L)|(apply sS ();clear V;intro w V)|(apply sB ();clear V;intro bx w V)|(apply sA ();clear V;intro bk w V)|fail)
 rw [hi] at V L ⊢;simp only [Ee] at V ⊢;obtain ⟨k,rfl⟩:∃ k:Nat,a=(k:Int):=⟨a.toNat,by omega⟩
 repeat' (first|go_skip|apply sG ()|(with_reducible refine Sl.k_guard ?_;refine Sl.guard_cases rfl ?_ ?_<;>intro hg<;>first|exact gX|(simp only [hg,Bool.not_true,Bool.not_false])<;>(try replace hg:=gN hg)<;>apply nW ())|(apply O ();go_step)|(apply kc ();refine sc (rp _ _ V) ?_;clear V;rintro v w ⟨rfl,V⟩)|apply sX ()|(apply sN ();intro hI)|(apply sI ();intro v L)|fail)
 obtain ⟨zs,hzs⟩:∃ zs,s.stack.take (s.stack.length - 1)=zs:=⟨_,rfl⟩
 have hzl:zs.length=s.stack.length - 1:=by rw [← hzs,List.length_take];omega
 have hzin:∀ y∈zs,DA y:=hzs▸Dk gd.stack
 refine CG (a:=0) (b:=s.stack.length - 1) X hvs Y Y (.inl ⟨rfl,rfl⟩) (.inr ⟨.i64,by simp [Ai,AV];omega⟩) (.inl rfl) (by omega) (by omega) ?_;intro vz hvz;rw [List.drop_zero,Nat.sub_zero,hzs] at hvz;obtain ⟨ay,ny,cy,rfl⟩:=Ae hvz;apply nW ();have hw:=FO gd;simp only [Gd hn];have rb:=fun (M:List J) (w:World) (V:St S M w)=>F6 w V _ s.vars hvv (by omega) k (by omega) (Bw s) (IN hw)
 repeat' (first|(apply O ();go_step)|(apply kc ();refine sc (rb _ _ V) ?_;clear V;rintro v w ⟨S2,a2,n2,c2,hS2,rfl,hsv,V⟩)|apply sX ()|(apply sS ();clear V;intro w V)|fail)
 refine Bl rfl V rfl 1 rfl inferInstance rfl rfl ?_;exact ⟨_,rfl,S2,_,_,_,_,hS2,rfl,hsv,hzs▸hvz.mono hS2,hvp.mono hS2,hvn.mono hS2,V.drop.drop.drop.drop⟩
end
section
variable {S:Ad} {M:List J} {vi vg:Value} {c:B9} {s:VS} {vv vs vp vn:Value}
set_option maxRecDepth 60000 in
theorem XR {n:Int} (w:World) (V:St S M w) (hvi:RSl S vi c.1) (hvm:c.1.length≤1048576) (hvv:RSl S vv s.vars) (hvs:RSl S vs s.stack) (hvp:RSl S vp s.pts) (hvn:RSl S vn s.notes) (h3:s.steps < 3000) (hp0:0≤s.pc) (hp1:s.pc < c.1.length) (gd:Br c s) {a b:Int} {u:Unit}
  (hi:c.1[s.pc.toNat]'(by omega)=(n,a,b,u)) (hn:2≤s.stack.length) (h4:4≤n) (h10:n≤10) :
  Ac prog 72 [Bs vi c,BU s vv vs vp vn 0,vg] w fun v w'=>Da S M { BO s with stack:=s.stack.take (s.stack.length - 2)++[IX n (Bw (BJ s)) (Bw s)] } v w':=by
 unfold Ac;obtain ⟨ai,ni,ci,rfl⟩:=Ae hvi;obtain ⟨av,nv,cv,rfl⟩:=Ae hvv;obtain ⟨az,nz,cz,rfl⟩:=Ae hvs;obtain ⟨ap,np,cp,rfl⟩:=Ae hvp;obtain ⟨an,nn,cn,rfl⟩:=Ae hvn;have hsl:=gd.slen
 have rp:∀ (M:List J) (w:World),St S M w→Ac prog 115 [.int .i64 n] w fun v w'=>v=.int .i64 2∧St S M w':=fun M w V=>by
  have:=BI w V n (by omega)
  have e:Ih n=2:=by
   rcases (by omega:n=4∨n=5∨n=6∨n=7∨n=8∨n=9∨n=10) with rfl|rfl|rfl|rfl|rfl|rfl|rfl<;>rfl
  rwa [e] at this
 have ht1:=FO gd;have ht2:=FO (Kj gd);have hw:=SM n (Bw (BJ s)) (Bw s);have hw0:=hw.1;have hw1:=hw.2;have rb:=fun (M:List J) (w:World) (V:St S M w)=>VL w V n (Bw (BJ s)) (Bw s) (by omega) ht2 ht1
 generalize IX n (Bw (BJ s)) (Bw s)=z at *;rcases (by omega:n=4∨n=5∨n=6∨n=7∨n=8∨n=9∨n=10) with rfl|rfl|rfl|rfl|rfl|rfl|rfl
 all_goals
  clear h4 h10;go_enter func72,ntmps72;repeat' ((apply ZZ 8);first|apply sG ()|(with_reducible refine Sl.k_guard ?_;refine Sl.guard_cases rfl ?_ ?_<;>intro hg<;>first|exact gX|(simp only [hg,Bool.not_true,Bool.not_false])<;>(try replace hg:=gN hg)<;>apply nW ())|(apply O ();go_step)|apply sX ()|apply sP ()|(apply sI ();intro v L)|(apply sS ();clear V;intro w V)|(apply sB ();clear V;intro bx w V)|(apply sA ();clear V;intro bk w V)|fail)
  rw [hi] at V L ⊢;simp only [Ee] at V ⊢;repeat' (first|apply sG ()|(apply O ();go_step)|(apply kc ();refine sc (rp _ _ V) ?_;clear V;rintro v w ⟨rfl,V⟩)|apply sX ()|(apply sN ();intro hI)|(apply sI ();intro v L)|fail)
  obtain ⟨zs,hzs⟩:∃ zs,s.stack.take (s.stack.length - 2)=zs:=⟨_,rfl⟩
  have hzl:zs.length=s.stack.length - 2:=by rw [← hzs,List.length_take];omega
  have hzin:∀ y∈zs,DA y:=hzs▸Dk gd.stack
  refine CG (a:=0) (b:=s.stack.length - 2) X hvs Y Y (.inl ⟨rfl,rfl⟩) (.inr ⟨.i64,by simp [Ai,AV];omega⟩) (.inl rfl) (by omega) (by omega) ?_;intro vz hvz;rw [List.drop_zero,Nat.sub_zero,hzs] at hvz;obtain ⟨ay,ny,cy,rfl⟩:=Ae hvz;apply nW ();simp only [Gd (show 1≤s.stack.length by omega),XG hn];repeat' (first|(apply O ();go_step)|(apply kc ();refine sc (rb _ _ V) ?_;clear V;rintro v w ⟨rfl,V⟩)|apply sX ()|(apply sS ();clear V;intro w V)|fail)
  refine Ay (vs:=[]) (cs:=[]) V Y Y rfl rfl (by simp) rfl (by omega) (by omega) ?_;clear V;intro x0 w V;apply nW ();repeat' (first|apply sX ()|fail)
  refine Bj (α:=Int) (k:=0) V X X rfl hvz Y Y Y (by omega) (by omega) (by decide) ?_;clear V;intro x2 w c2 hc2 V;apply nW ();obtain rfl:=FI hc2;clear hc2;repeat' (first|(apply O ();go_step)|fail)
  refine Ay (vs:=[.int .i64 z]) (cs:=cF Ba [z]) V Y Y rfl rfl (by simp [Value.cells]) rfl (by omega) (by omega) ?_;clear V;intro x11 w V;apply nW ();refine AF (k:=1) (j:=0) V X X rfl rfl Y Y Y (by simp [cF,Ba,Value.oneCell']) (by omega) (by omega) (by decide) ?_;clear V;intro x12 w V;apply nW ();simp only [List.set_cons_succ,List.set_cons_zero] at V;replace V:=V.drop;have fz:=GU (zs++[z]) (fun y hy=>IN (GY hzin hw y hy)) V (by simp only [IV,List.nil_append]) (by simp only [List.length_append,List.length_cons,List.length_nil];omega);clear V;obtain ⟨S2,hS2,V,hsz⟩:=fz;obtain ⟨ax,nx,cx,rfl⟩:=Ae hsz;subst hzs;apply am ()
end
end Go.Proofs.YtmmbidoldegemaaGreatDoor
