/- Part 34 of a proof; no conditions. -/
import Derived.Test.YtmmbidoldegemaaGreatDoorZ31
set_option linter.all false
set_option maxRecDepth 8000
set_option maxHeartbeats 8000000
namespace Go.Proofs.YtmmbidoldegemaaGreatDoor
open Go.RowKit Go.Sl Go.Proofs.Tryz
section
variable {S:Ad} {M:List J} {vi vg:Value} {c:B9} {s:VS} {vv vs vp vn:Value}
set_option maxRecDepth 60000 in
theorem Ve (w:World) (V:St S M w) (hvi:RSl S vi c.1) (hvm:c.1.length≤1048576) (hvv:RSl S vv s.vars) (hvs:RSl S vs s.stack) (hvp:RSl S vp s.pts) (hvn:RSl S vn s.notes) (h3:s.steps < 3000) (gd:Br c s) (L:s.pc < 0) :
  Ac prog 72 [Bs vi c,BU s vv vs vp vn 0,vg] w fun v w'=>D4 S M 21 v w':=by
 unfold Ac;obtain ⟨ai,ni,ci,rfl⟩:=Ae hvi;obtain ⟨av,nv,cv,rfl⟩:=Ae hvv;obtain ⟨az,nz,cz,rfl⟩:=Ae hvs;obtain ⟨ap,np,cp,rfl⟩:=Ae hvp;obtain ⟨an,nn,cn,rfl⟩:=Ae hvn;have hsl:=gd.slen;go_enter func72,ntmps72;repeat' (first|go_skip|(apply O ();go_step)|apply sX ()|(apply sS ();clear V;intro w V)|(apply sB ();clear V;intro bx w V)|(apply sA ();clear V;intro bk w V)|fail)
 apply gV ()
set_option maxRecDepth 60000 in
theorem Vf (w:World) (V:St S M w) (hvi:RSl S vi c.1) (hvm:c.1.length≤1048576) (hvv:RSl S vv s.vars) (hvs:RSl S vs s.stack) (hvp:RSl S vp s.pts) (hvn:RSl S vn s.notes) (h3:s.steps < 3000) (gd:Br c s) (hp0:0≤s.pc) (hp1:¬ s.pc < c.1.length) :
  Ac prog 72 [Bs vi c,BU s vv vs vp vn 0,vg] w fun v w'=>D4 S M 21 v w':=by
 unfold Ac;obtain ⟨ai,ni,ci,rfl⟩:=Ae hvi;obtain ⟨av,nv,cv,rfl⟩:=Ae hvv;obtain ⟨az,nz,cz,rfl⟩:=Ae hvs;obtain ⟨ap,np,cp,rfl⟩:=Ae hvp;obtain ⟨an,nn,cn,rfl⟩:=Ae hvn;have hsl:=gd.slen;go_enter func72,ntmps72;repeat' (first|apply sG ()|(with_reducible refine Sl.k_guard ?_;refine Sl.guard_cases rfl ?_ ?_<;>intro hg<;>first|exact gX|(simp only [hg,Bool.not_true,Bool.not_false])<;>(try replace hg:=gN hg)<;>apply nW ())|(apply O ();go_step)|apply sX ()|(apply sS ();clear V;intro w V)|(apply sB ();clear V;intro bx w V)|(apply sA ();clear V;intro bk w V)|fail)
 apply gV ()
set_option maxRecDepth 60000 in
theorem Vd (w:World) (V:St S M w) (hvi:RSl S vi c.1) (hvm:c.1.length≤1048576) (hvv:RSl S vv s.vars) (hvs:RSl S vs s.stack) (hvp:RSl S vp s.pts) (hvn:RSl S vn s.notes) (h3:s.steps < 3000) (gd:Br c s) (hp0:0≤s.pc) (hp1:s.pc < c.1.length) {op a b:Int} {u:Unit} (hi:c.1[s.pc.toNat]'(by omega)=(op,a,b,u)) (hop:¬ (1≤op∧op < 18)) :
  Ac prog 72 [Bs vi c,BU s vv vs vp vn 0,vg] w fun v w'=>D4 S M 21 v w':=by
 unfold Ac;obtain ⟨ai,ni,ci,rfl⟩:=Ae hvi;obtain ⟨av,nv,cv,rfl⟩:=Ae hvv;obtain ⟨az,nz,cz,rfl⟩:=Ae hvs;obtain ⟨ap,np,cp,rfl⟩:=Ae hvp;obtain ⟨an,nn,cn,rfl⟩:=Ae hvn;have hsl:=gd.slen;have rp:=fun (M:List J) (w:World) (V:St S M w)=>Yl w V op hop
 have e2:op≠2:=by omega
 have e3:op≠3:=by omega
 have e17:op≠17:=by omega
 have e12:op≠12:=by omega
 go_enter func72,ntmps72;repeat' ((apply ZZ 8);first|apply sG ()|(with_reducible refine Sl.k_guard ?_;refine Sl.guard_cases rfl ?_ ?_<;>intro hg<;>first|exact gX|(simp only [hg,Bool.not_true,Bool.not_false])<;>(try replace hg:=gN hg)<;>apply nW ())|(apply O ();go_step)|apply sX ()|apply sP ()|(apply sI ();intro v L)|(apply sS ();clear V;intro w V)|(apply sB ();clear V;intro bx w V)|(apply sA ();clear V;intro bk w V)|fail)
 rw [hi] at V L ⊢;simp only [Ee] at V ⊢;repeat' (first|go_skip|apply sG ()|(with_reducible refine Sl.k_guard ?_;refine Sl.guard_cases rfl ?_ ?_<;>intro hg<;>first|exact gX|(simp only [hg,Bool.not_true,Bool.not_false])<;>(try replace hg:=gN hg)<;>apply nW ())|(apply O ();go_step)|(apply kc ();refine sc (rp _ _ V) ?_;clear V;rintro v w ⟨rfl,V⟩)|apply sX ()|(apply sS ();clear V;intro w V)|fail)
 apply SO ()
end
section
variable {S:Ad} {M:List J} {vi vg:Value} {c:B9} {s:VS} {vv vs vp vn:Value}
set_option maxRecDepth 60000 in
theorem IA (w:World) (V:St S M w) (hvi:RSl S vi c.1) (hvm:c.1.length≤1048576) (hvv:RSl S vv s.vars) (hvs:RSl S vs s.stack) (hvp:RSl S vp s.pts) (hvn:RSl S vn s.notes) (h3:s.steps < 3000) (gd:Br c s) (hp0:0≤s.pc) (hp1:s.pc < c.1.length) {op a b:Int} {u:Unit} (hi:c.1[s.pc.toNat]'(by omega)=(op,a,b,u)) (hop:1≤op∧op < 18) (hbad:(s.stack.length:Int) < Ih op) :
  Ac prog 72 [Bs vi c,BU s vv vs vp vn 0,vg] w fun v w'=>D4 S M 21 v w':=by
 unfold Ac;obtain ⟨ai,ni,ci,rfl⟩:=Ae hvi;obtain ⟨av,nv,cv,rfl⟩:=Ae hvv;obtain ⟨az,nz,cz,rfl⟩:=Ae hvs;obtain ⟨ap,np,cp,rfl⟩:=Ae hvp;obtain ⟨an,nn,cn,rfl⟩:=Ae hvn;have hsl:=gd.slen;have rp:=fun (M:List J) (w:World) (V:St S M w)=>BI w V op hop
 generalize Ih op=np at *;go_enter func72,ntmps72;repeat' ((apply ZZ 8);first|apply sG ()|(with_reducible refine Sl.k_guard ?_;refine Sl.guard_cases rfl ?_ ?_<;>intro hg<;>first|exact gX|(simp only [hg,Bool.not_true,Bool.not_false])<;>(try replace hg:=gN hg)<;>apply nW ())|(apply O ();go_step)|apply sX ()|apply sP ()|(apply sI ();intro v L)|(apply sS ();clear V;intro w V)|(apply sB ();clear V;intro bx w V)|(apply sA ();clear V;intro bk w V)|fail)
 rw [hi] at V L ⊢;simp only [Ee] at V ⊢;repeat' (first|go_skip|apply sG ()|(with_reducible refine Sl.k_guard ?_;refine Sl.guard_cases rfl ?_ ?_<;>intro hg<;>first|exact gX|(simp only [hg,Bool.not_true,Bool.not_false])<;>(try replace hg:=gN hg)<;>apply nW ())|(apply O ();go_step)|(apply kc ();refine sc (rp _ _ V) ?_;clear V;rintro v w ⟨rfl,V⟩)|apply sX ()|(apply sS ();clear V;intro w V)|fail)
 all_goals
  apply SO ()
set_option maxRecDepth 60000 in
theorem Vc (w:World) (V:St S M w) (hvi:RSl S vi c.1) (hvm:c.1.length≤1048576) (hvv:RSl S vv s.vars) (hvs:RSl S vs s.stack) (hvp:RSl S vp s.pts) (hvn:RSl S vn s.notes) (h3:s.steps < 3000) (gd:Br c s) (hp0:0≤s.pc) (hp1:s.pc < c.1.length) {a b:Int} {u:Unit} (hi:c.1[s.pc.toNat]'(by omega)=(2,a,b,u)) (hn:0≤s.stack.length) (hv:¬ (0≤a∧a < s.vars.length)) :
  Ac prog 72 [Bs vi c,BU s vv vs vp vn 0,vg] w fun v w'=>D4 S M 21 v w':=by
 unfold Ac;obtain ⟨ai,ni,ci,rfl⟩:=Ae hvi;obtain ⟨av,nv,cv,rfl⟩:=Ae hvv;obtain ⟨az,nz,cz,rfl⟩:=Ae hvs;obtain ⟨ap,np,cp,rfl⟩:=Ae hvp;obtain ⟨an,nn,cn,rfl⟩:=Ae hvn;have hsl:=gd.slen;have rp:∀ (M:List J) (w:World),St S M w→Ac prog 115 [.int .i64 2] w fun v w'=>v=.int .i64 0∧St S M w':=fun M w V=>BI w V 2 (by decide)
 by_cases ha:a < 0
 all_goals
  go_enter func72,ntmps72;repeat' ((apply ZZ 8);first|apply sG ()|(with_reducible refine Sl.k_guard ?_;refine Sl.guard_cases rfl ?_ ?_<;>intro hg<;>first|exact gX|(simp only [hg,Bool.not_true,Bool.not_false])<;>(try replace hg:=gN hg)<;>apply nW ())|(apply O ();go_step)|apply sX ()|apply sP ()|(apply sI ();intro v L)|(apply sS ();clear V;intro w V)|(apply sB ();clear V;intro bx w V)|(apply sA ();clear V;intro bk w V)|fail)
  rw [hi] at V L ⊢;simp only [Ee] at V ⊢;repeat' (first|go_skip|apply sG ()|(apply O ();go_step)|(apply kc ();refine sc (rp _ _ V) ?_;clear V;rintro v w ⟨rfl,V⟩)|apply sX ()|(apply sS ();clear V;intro w V)|fail)
  all_goals (try (exfalso;omega))
  apply SO ()
set_option maxRecDepth 60000 in
theorem Vb (w:World) (V:St S M w) (hvi:RSl S vi c.1) (hvm:c.1.length≤1048576) (hvv:RSl S vv s.vars) (hvs:RSl S vs s.stack) (hvp:RSl S vp s.pts) (hvn:RSl S vn s.notes) (h3:s.steps < 3000) (gd:Br c s) (hp0:0≤s.pc) (hp1:s.pc < c.1.length) {a b:Int} {u:Unit} (hi:c.1[s.pc.toNat]'(by omega)=(3,a,b,u)) (hn:1≤s.stack.length) (hv:¬ (0≤a∧a < s.vars.length)) :
  Ac prog 72 [Bs vi c,BU s vv vs vp vn 0,vg] w fun v w'=>D4 S M 21 v w':=by
 unfold Ac;obtain ⟨ai,ni,ci,rfl⟩:=Ae hvi;obtain ⟨av,nv,cv,rfl⟩:=Ae hvv;obtain ⟨az,nz,cz,rfl⟩:=Ae hvs;obtain ⟨ap,np,cp,rfl⟩:=Ae hvp;obtain ⟨an,nn,cn,rfl⟩:=Ae hvn;have hsl:=gd.slen;have rp:∀ (M:List J) (w:World),St S M w→Ac prog 115 [.int .i64 3] w fun v w'=>v=.int .i64 1∧St S M w':=fun M w V=>BI w V 3 (by decide)
 by_cases ha:a < 0
 all_goals
  go_enter func72,ntmps72;repeat' ((apply ZZ 8);first|apply sG ()|(with_reducible refine Sl.k_guard ?_;refine Sl.guard_cases rfl ?_ ?_<;>intro hg<;>first|exact gX|(simp only [hg,Bool.not_true,Bool.not_false])<;>(try replace hg:=gN hg)<;>apply nW ())|(apply O ();go_step)|apply sX ()|apply sP ()|(apply sI ();intro v L)|(apply sS ();clear V;intro w V)|(apply sB ();clear V;intro bx w V)|(apply sA ();clear V;intro bk w V)|fail)
  rw [hi] at V L ⊢;simp only [Ee] at V ⊢;repeat' (first|go_skip|apply sG ()|(with_reducible refine Sl.k_guard ?_;refine Sl.guard_cases rfl ?_ ?_<;>intro hg<;>first|exact gX|(simp only [hg,Bool.not_true,Bool.not_false])<;>(try replace hg:=gN hg)<;>apply nW ())|(apply O ();go_step)|(apply kc ();refine sc (rp _ _ V) ?_;clear V;rintro v w ⟨rfl,V⟩)|apply sX ()|(apply sS ();clear V;intro w V)|fail)
  all_goals (try (exfalso;omega))
  apply SO ()
set_option maxRecDepth 60000 in
theorem Th (w:World) (V:St S M w) (hvi:RSl S vi c.1) (hvm:c.1.length≤1048576) (hvv:RSl S vv s.vars) (hvs:RSl S vs s.stack) (hvp:RSl S vp s.pts) (hvn:RSl S vn s.notes) (h3:s.steps < 3000) (gd:Br c s) (hp0:0≤s.pc) (hp1:s.pc < c.1.length) {a b:Int} {u:Unit} (hi:c.1[s.pc.toNat]'(by omega)=(17,a,b,u)) (hn:0≤s.stack.length) (hv:¬ (0≤a∧a < s.vars.length)) :
  Ac prog 72 [Bs vi c,BU s vv vs vp vn 0,vg] w fun v w'=>D4 S M 21 v w':=by
 unfold Ac;obtain ⟨ai,ni,ci,rfl⟩:=Ae hvi;obtain ⟨av,nv,cv,rfl⟩:=Ae hvv;obtain ⟨az,nz,cz,rfl⟩:=Ae hvs;obtain ⟨ap,np,cp,rfl⟩:=Ae hvp;obtain ⟨an,nn,cn,rfl⟩:=Ae hvn;have hsl:=gd.slen;have rp:∀ (M:List J) (w:World),St S M w→Ac prog 115 [.int .i64 17] w fun v w'=>v=.int .i64 0∧St S M w':=fun M w V=>BI w V 17 (by decide)
 by_cases ha:a < 0
 all_goals
  go_enter func72,ntmps72;repeat' ((apply ZZ 8);first|apply sG ()|(with_reducible refine Sl.k_guard ?_;refine Sl.guard_cases rfl ?_ ?_<;>intro hg<;>first|exact gX|(simp only [hg,Bool.not_true,Bool.not_false])<;>(try replace hg:=gN hg)<;>apply nW ())|(apply O ();go_step)|apply sX ()|apply sP ()|(apply sI ();intro v L)|(apply sS ();clear V;intro w V)|(apply sB ();clear V;intro bx w V)|(apply sA ();clear V;intro bk w V)|fail)
  rw [hi] at V L ⊢;simp only [Ee] at V ⊢;repeat' (first|go_skip|apply sG ()|(apply O ();go_step)|(apply kc ();refine sc (rp _ _ V) ?_;clear V;rintro v w ⟨rfl,V⟩)|apply sX ()|(apply sS ();clear V;intro w V)|fail)
  all_goals (try (exfalso;omega))
  apply SO ()
end
end Go.Proofs.YtmmbidoldegemaaGreatDoor
