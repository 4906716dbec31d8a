/- Part 33 of a proof; no conditions. -/
import Derived.Test.YtmmbidoldegemaaGreatDoorZ31
set_option linter.all false
set_option maxRecDepth 8000
set_option maxHeartbeats 8000000
namespace Go.Proofs.YtmmbidoldegemaaGreatDoor
open Go.RowKit Go.Sl Go.Proofs.Tryz
section
variable {S:Ad} {M:List J} {vi vg:Value} {c:B9} {s:VS} {vv vs vp vn:Value}
set_option maxRecDepth 60000 in
theorem aW (w:World) (V:St S M w) (hvi:RSl S vi c.1) (hvm:c.1.length≤1048576) (hvv:RSl S vv s.vars) (hvs:RSl S vs s.stack) (hvp:RSl S vp s.pts) (hvn:RSl S vn s.notes) (h3:s.steps < 3000) (hp0:0≤s.pc) (hp1:s.pc < c.1.length) (gd:Br c s) {a b:Int} {u:Unit}
  (hi:c.1[s.pc.toNat]'(by omega)=(11,a,b,u)) (hn:1≤s.stack.length) :
  Ac prog 72 [Bs vi c,BU s vv vs vp vn 0,vg] w fun v w'=>Da S M { BO s with stack:=s.stack.take (s.stack.length - 1)++[En (Bw s == 0)] } v w':=by
 unfold Ac;obtain ⟨ai,ni,ci,rfl⟩:=Ae hvi;obtain ⟨av,nv,cv,rfl⟩:=Ae hvv;obtain ⟨az,nz,cz,rfl⟩:=Ae hvs;obtain ⟨ap,np,cp,rfl⟩:=Ae hvp;obtain ⟨an,nn,cn,rfl⟩:=Ae hvn;have hsl:=gd.slen;have rp:∀ (M:List J) (w:World),St S M w→Ac prog 115 [.int .i64 11] w fun v w'=>v=.int .i64 1∧St S M w':=fun M w V=>BI w V 11 (by decide)
 go_enter func72,ntmps72;repeat' ((apply ZZ 8);first|apply sG ()|(with_reducible refine Sl.k_guard ?_;refine Sl.guard_cases rfl ?_ ?_<;>intro hg<;>first|exact gX|(simp only [hg,Bool.not_true,Bool.not_false])<;>(try replace hg:=gN hg)<;>apply nW ())|(apply O ();go_step)|apply sX ()|apply sP ()|(apply sI ();intro v L)|(apply sS ();clear V;intro w V)|(apply sB ();clear V;intro bx w V)|(apply sA ();clear V;intro bk w V)|fail)
 rw [hi] at V L ⊢;simp only [Ee] at V ⊢;repeat' (first|apply sG ()|(apply O ();go_step)|(apply kc ();refine sc (rp _ _ V) ?_;clear V;rintro v w ⟨rfl,V⟩)|apply sX ()|(apply sN ();intro hI)|(apply sI ();intro v L)|fail)
 obtain ⟨zs,hzs⟩:∃ zs,s.stack.take (s.stack.length - 1)=zs:=⟨_,rfl⟩
 have hzl:zs.length=s.stack.length - 1:=by rw [← hzs,List.length_take];omega
 have hzin:∀ y∈zs,DA y:=hzs▸Dk gd.stack
 refine CG (a:=0) (b:=s.stack.length - 1) X hvs Y Y (.inl ⟨rfl,rfl⟩) (.inr ⟨.i64,by simp [Ai,AV];omega⟩) (.inl rfl) (by omega) (by omega) ?_;intro vz hvz;rw [List.drop_zero,Nat.sub_zero,hzs] at hvz;obtain ⟨ay,ny,cy,rfl⟩:=Ae hvz;apply nW ();have hw:=KK (Bw s == 0);have hw0:=hw.1;simp only [Gd hn];have rb:=fun (M:List J) (w:World) (V:St S M w)=>F8 w V (Bw s == 0)
 repeat' (first|(apply O ();go_step)|(apply kc ();refine sc (rb _ _ V) ?_;clear V;rintro v w ⟨rfl,V⟩)|apply sX ()|(apply sS ();clear V;intro w V)|fail)
 refine Ay (vs:=[]) (cs:=[]) V Y Y rfl rfl (by simp) rfl (by omega) (by omega) ?_;clear V;intro x0 w V;apply nW ();repeat' (first|apply sX ()|fail)
 refine Bj (α:=Int) (k:=0) V X X rfl hvz Y Y Y (by omega) (by omega) (by decide) ?_;clear V;intro x2 w c2 hc2 V;apply nW ();obtain rfl:=FI hc2;clear hc2;repeat' (first|(apply O ();go_step)|fail)
 refine Ay (vs:=[.int .i64 (En (Bw s == 0))]) (cs:=cF Ba [(En (Bw s == 0))]) V Y Y rfl rfl (by simp [Value.cells]) rfl (by omega) (by omega) ?_;clear V;intro x11 w V;apply nW ();refine AF (k:=1) (j:=0) V X X rfl rfl Y Y Y (by simp [cF,Ba,Value.oneCell']) (by omega) (by omega) (by decide) ?_;clear V;intro x12 w V;apply nW ();simp only [List.set_cons_succ,List.set_cons_zero] at V;replace V:=V.drop;have fz:=GU (zs++[(En (Bw s == 0))]) (fun y hy=>IN (GY hzin hw y hy)) V (by simp only [IV,List.nil_append]) (by simp only [List.length_append,List.length_cons,List.length_nil];omega);clear V;obtain ⟨S2,hS2,V,hsz⟩:=fz;obtain ⟨ax,nx,cx,rfl⟩:=Ae hsz;subst hzs;apply am ()
set_option maxRecDepth 60000 in
theorem aU (w:World) (V:St S M w) (hvi:RSl S vi c.1) (hvm:c.1.length≤1048576) (hvv:RSl S vv s.vars) (hvs:RSl S vs s.stack) (hvp:RSl S vp s.pts) (hvn:RSl S vn s.notes) (h3:s.steps < 3000) (hp0:0≤s.pc) (hp1:s.pc < c.1.length) (gd:Br c s) {a b:Int} {u:Unit}
  (hi:c.1[s.pc.toNat]'(by omega)=(14,a,b,u)) (hn:1≤s.stack.length) (hnl:s.notes.length≤3000) :
  Ac prog 72 [Bs vi c,BU s vv vs vp vn 0,vg] w fun v w'=>Da S M { BO s with stack:=s.stack.take (s.stack.length - 1),notes:=s.notes++[Bw s] } v w':=by
 unfold Ac;obtain ⟨ai,ni,ci,rfl⟩:=Ae hvi;obtain ⟨av,nv,cv,rfl⟩:=Ae hvv;obtain ⟨az,nz,cz,rfl⟩:=Ae hvs;obtain ⟨ap,np,cp,rfl⟩:=Ae hvp;obtain ⟨an,nn,cn,rfl⟩:=Ae hvn;have hsl:=gd.slen;have rp:∀ (M:List J) (w:World),St S M w→Ac prog 115 [.int .i64 14] w fun v w'=>v=.int .i64 1∧St S M w':=fun M w V=>BI w V 14 (by decide)
 go_enter func72,ntmps72;repeat' ((apply ZZ 8);first|apply sG ()|(with_reducible refine Sl.k_guard ?_;refine Sl.guard_cases rfl ?_ ?_<;>intro hg<;>first|exact gX|(simp only [hg,Bool.not_true,Bool.not_false])<;>(try replace hg:=gN hg)<;>apply nW ())|(apply O ();go_step)|apply sX ()|apply sP ()|(apply sI ();intro v L)|(apply sS ();clear V;intro w V)|(apply sB ();clear V;intro bx w V)|(apply sA ();clear V;intro bk w V)|fail)
 rw [hi] at V L ⊢;simp only [Ee] at V ⊢;repeat' (first|apply sG ()|(apply O ();go_step)|(apply kc ();refine sc (rp _ _ V) ?_;clear V;rintro v w ⟨rfl,V⟩)|apply sX ()|(apply sN ();intro hI)|(apply sI ();intro v L)|fail)
 obtain ⟨zs,hzs⟩:∃ zs,s.stack.take (s.stack.length - 1)=zs:=⟨_,rfl⟩
 have hzl:zs.length=s.stack.length - 1:=by rw [← hzs,List.length_take];omega
 have hzin:∀ y∈zs,DA y:=hzs▸Dk gd.stack
 refine CG (a:=0) (b:=s.stack.length - 1) X hvs Y Y (.inl ⟨rfl,rfl⟩) (.inr ⟨.i64,by simp [Ai,AV];omega⟩) (.inl rfl) (by omega) (by omega) ?_;intro vz hvz;rw [List.drop_zero,Nat.sub_zero,hzs] at hvz;obtain ⟨ay,ny,cy,rfl⟩:=Ae hvz;apply nW ();have hw:=FO gd;simp only [Gd hn];repeat' (first|(apply O ();go_step)|apply sX ()|(apply sS ();clear V;intro w V)|fail)
 refine Ay (vs:=[]) (cs:=[]) V Y Y rfl rfl (by simp) rfl (by omega) (by omega) ?_;clear V;intro x0 w V;apply nW ();repeat' (first|apply sX ()|fail)
 refine Bj (α:=Int) (k:=0) V X X rfl hvn Y Y Y (by omega) (by omega) (by decide) ?_;clear V;intro x2 w c2 hc2 V;apply nW ();obtain rfl:=FI hc2;clear hc2;repeat' (first|(apply O ();go_step)|fail)
 refine Ay (vs:=[.int .i64 (Bw s)]) (cs:=cF Ba [(Bw s)]) V Y Y rfl rfl (by simp [Value.cells]) rfl (by omega) (by omega) ?_;clear V;intro x11 w V;apply nW ();refine AF (k:=1) (j:=0) V X X rfl rfl Y Y Y (by simp [cF,Ba,Value.oneCell']) (by omega) (by omega) (by decide) ?_;clear V;intro x12 w V;apply nW ();simp only [List.set_cons_succ,List.set_cons_zero] at V;replace V:=V.drop;have fz:=GU (s.notes++[(Bw s)]) (fun y hy=>IN (GY gd.notes hw y hy)) V (by simp only [IV,List.nil_append]) (by simp only [List.length_append,List.length_cons,List.length_nil];omega);clear V;obtain ⟨S2,hS2,V,hsz⟩:=fz;obtain ⟨ax,nx,cx,rfl⟩:=Ae hsz;subst hzs;repeat' (first|(apply O ();go_step)|apply sX ()|(apply sS ();clear V;intro w V)|fail)
 refine Bl rfl V rfl 1 rfl inferInstance rfl rfl ?_;exact ⟨_,rfl,S2,_,_,_,_,hS2,rfl,hvv.mono hS2,hvz.mono hS2,hvp.mono hS2,hsz,V.drop.drop.drop.drop⟩
end
section
variable {S:Ad} {M:List J} {vi vg:Value} {c:B9} {s:VS} {vv vs vp vn:Value}
set_option maxRecDepth 60000 in
theorem XU (w:World) (V:St S M w) (hvi:RSl S vi c.1) (hvm:c.1.length≤1048576) (hvv:RSl S vv s.vars) (hvs:RSl S vs s.stack) (hvp:RSl S vp s.pts) (hvn:RSl S vn s.notes) (h3:s.steps < 3000) (hp0:0≤s.pc) (hp1:s.pc < c.1.length) (gd:Br c s) {a b:Int} {u:Unit}
  (hi:c.1[s.pc.toNat]'(by omega)=(17,a,b,u)) (ha0:0≤a) (ha1:a < s.vars.length) (hvl:s.vars.length≤400) (hx:1 < s.vars[a.toNat]'(by omega)) :
  Ac prog 72 [Bs vi c,BU s vv vs vp vn 0,vg] w fun v w'=>Da S M { BO s with vars:=C6 s.vars a (s.vars[a.toNat]'(by omega) - 1),pc:=b } v w':=by
 unfold Ac;obtain ⟨ai,ni,ci,rfl⟩:=Ae hvi;obtain ⟨av,nv,cv,rfl⟩:=Ae hvv;obtain ⟨az,nz,cz,rfl⟩:=Ae hvs;obtain ⟨ap,np,cp,rfl⟩:=Ae hvp;obtain ⟨an,nn,cn,rfl⟩:=Ae hvn;have hsl:=gd.slen;have rp:∀ (M:List J) (w:World),St S M w→Ac prog 115 [.int .i64 17] w fun v w'=>v=.int .i64 0∧St S M w':=fun M w V=>BI w V 17 (by decide)
 go_enter func72,ntmps72;repeat' ((apply ZZ 8);first|apply sG ()|(with_reducible refine Sl.k_guard ?_;refine Sl.guard_cases rfl ?_ ?_<;>intro hg<;>first|exact gX|(simp only [hg,Bool.not_true,Bool.not_false])<;>(try replace hg:=gN hg)<;>apply nW ())|(apply O ();go_step)|apply sX ()|apply sP ()|(apply sI ();intro v L)|(apply sS ();clear V;intro w V)|(apply sB ();clear V;intro bx w V)|(apply sA ();clear V;intro bk w V)|fail)
 rw [hi] at V L ⊢;simp only [Ee] at V ⊢;obtain ⟨k,rfl⟩:∃ k:Nat,a=(k:Int):=⟨a.toNat,by omega⟩
 simp only [Int.toNat_natCast] at hx ⊢;repeat' (first|apply sG ()|(apply O ();go_step)|(apply kc ();refine sc (rp _ _ V) ?_;clear V;rintro v w ⟨rfl,V⟩)|apply sX ()|fail)
 refine CG (a:=0) (b:=s.stack.length) X hvs Y Y (.inl ⟨rfl,rfl⟩) (.inr ⟨.i64,by simp [Ai,AV]⟩) (.inl rfl) (by omega) (by omega) ?_;intro vz hvz;rw [List.drop_zero,Nat.sub_zero,List.take_length] at hvz;obtain ⟨ay,ny,cy,rfl⟩:=Ae hvz;apply nW ();have hzin:=gd.stack;have hw:=gd.vars _ (List.getElem_mem (show k < s.vars.length by omega));have hw0:=hw.1;have hw1:=hw.2;have rb:=fun (M:List J) (w:World) (V:St S M w)=>F6 w V _ s.vars hvv (by omega) k (by omega) (s.vars[k]'(by omega) - 1) (by unfold Au;omega)
 repeat' (first|(apply O ();go_step)|(apply kc ();refine sc (rb _ _ V) ?_;clear V;rintro v w ⟨S2,a2,n2,c2,hS2,rfl,hsv,V⟩)|apply sX ()|(apply sN ();intro hI)|(apply sI ();intro v L)|(apply sS ();clear V;intro w V)|fail)
 refine Bl rfl V rfl 1 rfl inferInstance rfl rfl ?_;exact ⟨_,rfl,S2,_,_,_,_,hS2,rfl,hsv,hvz.mono hS2,hvp.mono hS2,hvn.mono hS2,V.drop.drop.drop.drop⟩
set_option maxRecDepth 60000 in
theorem XT (w:World) (V:St S M w) (hvi:RSl S vi c.1) (hvm:c.1.length≤1048576) (hvv:RSl S vv s.vars) (hvs:RSl S vs s.stack) (hvp:RSl S vp s.pts) (hvn:RSl S vn s.notes) (h3:s.steps < 3000) (hp0:0≤s.pc) (hp1:s.pc < c.1.length) (gd:Br c s) {a b:Int} {u:Unit}
  (hi:c.1[s.pc.toNat]'(by omega)=(17,a,b,u)) (ha0:0≤a) (ha1:a < s.vars.length) (hvl:s.vars.length≤400) (hx:s.vars[a.toNat]'(by omega)=1) :
  Ac prog 72 [Bs vi c,BU s vv vs vp vn 0,vg] w fun v w'=>Da S M { BO s with vars:=C6 s.vars a (0) } v w':=by
 apply b13 ()
set_option maxRecDepth 60000 in
theorem XS (w:World) (V:St S M w) (hvi:RSl S vi c.1) (hvm:c.1.length≤1048576) (hvv:RSl S vv s.vars) (hvs:RSl S vs s.stack) (hvp:RSl S vp s.pts) (hvn:RSl S vn s.notes) (h3:s.steps < 3000) (hp0:0≤s.pc) (hp1:s.pc < c.1.length) (gd:Br c s) {a b:Int} {u:Unit}
  (hi:c.1[s.pc.toNat]'(by omega)=(17,a,b,u)) (ha0:0≤a) (ha1:a < s.vars.length) (hvl:s.vars.length≤400) (hx:s.vars[a.toNat]'(by omega)=0) :
  Ac prog 72 [Bs vi c,BU s vv vs vp vn 0,vg] w fun v w'=>Da S M { BO s with vars:=C6 s.vars a (0) } v w':=by
 apply b13 ()
end
end Go.Proofs.YtmmbidoldegemaaGreatDoor
