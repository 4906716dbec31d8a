/- Part 35 of a proof; no conditions. -/
import Derived.Test.YtmmbidoldegemaaGreatDoorZ31
set_option linter.all false
set_option maxRecDepth 8000
set_option maxHeartbeats 8000000
namespace Go.Proofs.YtmmbidoldegemaaGreatDoor
open Go.RowKit Go.Sl Go.Proofs.Tryz
section
variable {S:Ad} {M:List J} {vi vg:Value} {c:B9} {s:VS} {vv vs vp vn:Value}
set_option maxRecDepth 60000 in
theorem XY (w:World) (V:St S M w) (hvi:RSl S vi c.1) (hvm:c.1.length≤1048576) (hvv:RSl S vv s.vars) (hvs:RSl S vs s.stack) (hvp:RSl S vp s.pts) (hvn:RSl S vn s.notes) (h3:s.steps < 3000) (hp0:0≤s.pc) (hp1:s.pc < c.1.length) (gd:Br c s) {a b:Int} {u:Unit}
  (hi:c.1[s.pc.toNat]'(by omega)=(12,a,b,u)) {gl:List Int} (hgl:RSl S vg gl) (hgm:gl.length≤1048576) (hn:1≤s.stack.length) (hb0:0≤b) (hb2:b < s.pts.length) (hb1:b < c.2.2.1) (hpn:s.pts.length≤8) (h0:¬ Bw s=0) (hz:gl.contains (s.br:Int)=false) :
  Ac prog 72 [Bs vi c,BU s vv vs vp vn 0,vg] w fun v w'=>Da S M { BO s with stack:=s.stack.take (s.stack.length - 1),br:=s.br+1,pts:=C6 s.pts b (GH (s.pts[b.toNat]'(by omega)) 1) } v w':=by
 unfold Ac;obtain ⟨ai,ni,ci,rfl⟩:=Ae hvi;obtain ⟨av,nv,cv,rfl⟩:=Ae hvv;obtain ⟨az,nz,cz,rfl⟩:=Ae hvs;obtain ⟨ap,np,cp,rfl⟩:=Ae hvp;obtain ⟨an,nn,cn,rfl⟩:=Ae hvn;have hsl:=gd.slen;have rp:∀ (M:List J) (w:World),St S M w→Ac prog 115 [.int .i64 12] w fun v w'=>v=.int .i64 1∧St S M w':=fun M w V=>BI w V 12 (by decide)
 go_enter func72,ntmps72;repeat' ((apply ZZ 8);first|apply sG ()|(with_reducible refine Sl.k_guard ?_;refine Sl.guard_cases rfl ?_ ?_<;>intro hg<;>first|exact gX|(simp only [hg,Bool.not_true,Bool.not_false])<;>(try replace hg:=gN hg)<;>apply nW ())|(apply O ();go_step)|apply sX ()|apply sP ()|(apply sI ();intro v L)|(apply sS ();clear V;intro w V)|(apply sB ();clear V;intro bx w V)|(apply sA ();clear V;intro bk w V)|fail)
 rw [hi] at V L ⊢;simp only [Ee] at V ⊢;obtain ⟨k,rfl⟩:∃ k:Nat,b=(k:Int):=⟨b.toNat,by omega⟩
 (try simp only [Int.toNat_natCast]);repeat' (first|apply sG ()|(with_reducible refine Sl.k_guard ?_;refine Sl.guard_cases rfl ?_ ?_<;>intro hg<;>first|exact gX|(simp only [hg,Bool.not_true,Bool.not_false])<;>(try replace hg:=gN hg)<;>apply nW ())|(apply O ();go_step)|(apply kc ();refine sc (rp _ _ V) ?_;clear V;rintro v w ⟨rfl,V⟩)|apply sX ()|(apply sN ();intro hI)|(apply sI ();intro v L)|fail)
 obtain ⟨zs,hzs⟩:∃ zs,s.stack.take (s.stack.length - 1)=zs:=⟨_,rfl⟩
 have hzl:zs.length=s.stack.length - 1:=by rw [← hzs,List.length_take];omega
 have hzin:∀ y∈zs,DA y:=hzs▸Dk gd.stack
 refine CG (a:=0) (b:=s.stack.length - 1) X hvs Y Y (.inl ⟨rfl,rfl⟩) (.inr ⟨.i64,by simp [Ai,AV];omega⟩) (.inl rfl) (by omega) (by omega) ?_;intro vz hvz;rw [List.drop_zero,Nat.sub_zero,hzs] at hvz;obtain ⟨ay,ny,cy,rfl⟩:=Ae hvz;apply nW ();have hw:=FO gd;simp only [Gd hn];have hpin:=gd.pts _ (List.getElem_mem (show k < s.pts.length by omega));have ri:=fun (M:List J) (w:World) (V:St S M w)=>(Pp w V vg gl hgl hgm (s.br:Int)).eq hz
 have hbr:=gd.br;have rb:=fun (M:List J) (w:World) (V:St S M w)=>F6 w V _ s.pts hvp (by omega) k (by omega) (GH (s.pts[k]'(by omega)) 1) (Ni (K1 hpin ⟨by decide,by decide⟩))
 repeat' ((apply ZZ 54);first|(apply O ();go_step)|(apply kc ();refine sc (ri _ _ V) ?_;clear V;rintro v w ⟨rfl,V⟩)|apply sX ()|(apply sS ();clear V;intro w V)|fail)
 all_goals (try (exfalso;simp_all;done))
 apply b5 ()
end
section
variable {S:Ad} {M:List J} {vi vg:Value} {c:B9} {s:VS} {vv vs vp vn:Value}
set_option maxRecDepth 60000 in
theorem XX (w:World) (V:St S M w) (hvi:RSl S vi c.1) (hvm:c.1.length≤1048576) (hvv:RSl S vv s.vars) (hvs:RSl S vs s.stack) (hvp:RSl S vp s.pts) (hvn:RSl S vn s.notes) (h3:s.steps < 3000) (hp0:0≤s.pc) (hp1:s.pc < c.1.length) (gd:Br c s) {a b:Int} {u:Unit}
  (hi:c.1[s.pc.toNat]'(by omega)=(12,a,b,u)) {gl:List Int} (hgl:RSl S vg gl) (hgm:gl.length≤1048576) (hn:1≤s.stack.length) (hb0:0≤b) (hb2:b < s.pts.length) (hb1:b < c.2.2.1) (hpn:s.pts.length≤8) (h0:¬ Bw s=0) (hz:gl.contains (s.br:Int)=true) :
  Ac prog 72 [Bs vi c,BU s vv vs vp vn 0,vg] w fun v w'=>Da S M { BO s with stack:=s.stack.take (s.stack.length - 1),br:=s.br+1,pts:=C6 s.pts b (GH (s.pts[b.toNat]'(by omega)) 2),pc:=a } v w':=by
 unfold Ac;obtain ⟨ai,ni,ci,rfl⟩:=Ae hvi;obtain ⟨av,nv,cv,rfl⟩:=Ae hvv;obtain ⟨az,nz,cz,rfl⟩:=Ae hvs;obtain ⟨ap,np,cp,rfl⟩:=Ae hvp;obtain ⟨an,nn,cn,rfl⟩:=Ae hvn;have hsl:=gd.slen;have rp:∀ (M:List J) (w:World),St S M w→Ac prog 115 [.int .i64 12] w fun v w'=>v=.int .i64 1∧St S M w':=fun M w V=>BI w V 12 (by decide)
 go_enter func72,ntmps72;repeat' ((apply ZZ 8);first|apply sG ()|(with_reducible refine Sl.k_guard ?_;refine Sl.guard_cases rfl ?_ ?_<;>intro hg<;>first|exact gX|(simp only [hg,Bool.not_true,Bool.not_false])<;>(try replace hg:=gN hg)<;>apply nW ())|(apply O ();go_step)|apply sX ()|apply sP ()|(apply sI ();intro v L)|(apply sS ();clear V;intro w V)|(apply sB ();clear V;intro bx w V)|(apply sA ();clear V;intro bk w V)|fail)
 rw [hi] at V L ⊢;simp only [Ee] at V ⊢;obtain ⟨k,rfl⟩:∃ k:Nat,b=(k:Int):=⟨b.toNat,by omega⟩
 (try simp only [Int.toNat_natCast]);repeat' (first|apply sG ()|(with_reducible refine Sl.k_guard ?_;refine Sl.guard_cases rfl ?_ ?_<;>intro hg<;>first|exact gX|(simp only [hg,Bool.not_true,Bool.not_false])<;>(try replace hg:=gN hg)<;>apply nW ())|(apply O ();go_step)|(apply kc ();refine sc (rp _ _ V) ?_;clear V;rintro v w ⟨rfl,V⟩)|apply sX ()|(apply sN ();intro hI)|(apply sI ();intro v L)|fail)
 obtain ⟨zs,hzs⟩:∃ zs,s.stack.take (s.stack.length - 1)=zs:=⟨_,rfl⟩
 have hzl:zs.length=s.stack.length - 1:=by rw [← hzs,List.length_take];omega
 have hzin:∀ y∈zs,DA y:=hzs▸Dk gd.stack
 refine CG (a:=0) (b:=s.stack.length - 1) X hvs Y Y (.inl ⟨rfl,rfl⟩) (.inr ⟨.i64,by simp [Ai,AV];omega⟩) (.inl rfl) (by omega) (by omega) ?_;intro vz hvz;rw [List.drop_zero,Nat.sub_zero,hzs] at hvz;obtain ⟨ay,ny,cy,rfl⟩:=Ae hvz;apply nW ();have hw:=FO gd;simp only [Gd hn];have hpin:=gd.pts _ (List.getElem_mem (show k < s.pts.length by omega));have ri:=fun (M:List J) (w:World) (V:St S M w)=>(Pp w V vg gl hgl hgm (s.br:Int)).eq hz
 have hbr:=gd.br;have rb:=fun (M:List J) (w:World) (V:St S M w)=>F6 w V _ s.pts hvp (by omega) k (by omega) (GH (s.pts[k]'(by omega)) 2) (Ni (K1 hpin ⟨by decide,by decide⟩))
 repeat' ((apply ZZ 54);first|(apply O ();go_step)|(apply kc ();refine sc (ri _ _ V) ?_;clear V;rintro v w ⟨rfl,V⟩)|apply sX ()|(apply sS ();clear V;intro w V)|fail)
 all_goals (try (exfalso;simp_all;done))
 apply b5 ()
end
section
variable {S:Ad} {M:List J} {vi vg:Value} {c:B9} {s:VS} {vv vs vp vn:Value}
set_option maxRecDepth 60000 in
theorem XW (w:World) (V:St S M w) (hvi:RSl S vi c.1) (hvm:c.1.length≤1048576) (hvv:RSl S vv s.vars) (hvs:RSl S vs s.stack) (hvp:RSl S vp s.pts) (hvn:RSl S vn s.notes) (h3:s.steps < 3000) (hp0:0≤s.pc) (hp1:s.pc < c.1.length) (gd:Br c s) {a b:Int} {u:Unit}
  (hi:c.1[s.pc.toNat]'(by omega)=(12,a,b,u)) {gl:List Int} (hgl:RSl S vg gl) (hgm:gl.length≤1048576) (hn:1≤s.stack.length) (hb0:0≤b) (hb2:b < s.pts.length) (hb1:b < c.2.2.1) (hpn:s.pts.length≤8) (h0:Bw s=0) (hz:gl.contains (s.br:Int)=false) :
  Ac prog 72 [Bs vi c,BU s vv vs vp vn 0,vg] w fun v w'=>Da S M { BO s with stack:=s.stack.take (s.stack.length - 1),br:=s.br+1,pts:=C6 s.pts b (GH (s.pts[b.toNat]'(by omega)) 2),pc:=a } v w':=by
 unfold Ac;obtain ⟨ai,ni,ci,rfl⟩:=Ae hvi;obtain ⟨av,nv,cv,rfl⟩:=Ae hvv;obtain ⟨az,nz,cz,rfl⟩:=Ae hvs;obtain ⟨ap,np,cp,rfl⟩:=Ae hvp;obtain ⟨an,nn,cn,rfl⟩:=Ae hvn;have hsl:=gd.slen;have rp:∀ (M:List J) (w:World),St S M w→Ac prog 115 [.int .i64 12] w fun v w'=>v=.int .i64 1∧St S M w':=fun M w V=>BI w V 12 (by decide)
 go_enter func72,ntmps72;repeat' ((apply ZZ 8);first|apply sG ()|(with_reducible refine Sl.k_guard ?_;refine Sl.guard_cases rfl ?_ ?_<;>intro hg<;>first|exact gX|(simp only [hg,Bool.not_true,Bool.not_false])<;>(try replace hg:=gN hg)<;>apply nW ())|(apply O ();go_step)|apply sX ()|apply sP ()|(apply sI ();intro v L)|(apply sS ();clear V;intro w V)|(apply sB ();clear V;intro bx w V)|(apply sA ();clear V;intro bk w V)|fail)
 rw [hi] at V L ⊢;simp only [Ee] at V ⊢;obtain ⟨k,rfl⟩:∃ k:Nat,b=(k:Int):=⟨b.toNat,by omega⟩
 (try simp only [Int.toNat_natCast]);repeat' (first|apply sG ()|(with_reducible refine Sl.k_guard ?_;refine Sl.guard_cases rfl ?_ ?_<;>intro hg<;>first|exact gX|(simp only [hg,Bool.not_true,Bool.not_false])<;>(try replace hg:=gN hg)<;>apply nW ())|(apply O ();go_step)|(apply kc ();refine sc (rp _ _ V) ?_;clear V;rintro v w ⟨rfl,V⟩)|apply sX ()|(apply sN ();intro hI)|(apply sI ();intro v L)|fail)
 obtain ⟨zs,hzs⟩:∃ zs,s.stack.take (s.stack.length - 1)=zs:=⟨_,rfl⟩
 have hzl:zs.length=s.stack.length - 1:=by rw [← hzs,List.length_take];omega
 have hzin:∀ y∈zs,DA y:=hzs▸Dk gd.stack
 refine CG (a:=0) (b:=s.stack.length - 1) X hvs Y Y (.inl ⟨rfl,rfl⟩) (.inr ⟨.i64,by simp [Ai,AV];omega⟩) (.inl rfl) (by omega) (by omega) ?_;intro vz hvz;rw [List.drop_zero,Nat.sub_zero,hzs] at hvz;obtain ⟨ay,ny,cy,rfl⟩:=Ae hvz;apply nW ();have hw:=FO gd;simp only [Gd hn];have hpin:=gd.pts _ (List.getElem_mem (show k < s.pts.length by omega));have ri:=fun (M:List J) (w:World) (V:St S M w)=>(Pp w V vg gl hgl hgm (s.br:Int)).eq hz
 have hbr:=gd.br;have rb:=fun (M:List J) (w:World) (V:St S M w)=>F6 w V _ s.pts hvp (by omega) k (by omega) (GH (s.pts[k]'(by omega)) 2) (Ni (K1 hpin ⟨by decide,by decide⟩))
 repeat' ((fail_if_success (with_reducible show Code.wp _ (Code.region 54 _ _) _ _ _));first|(apply O ();go_step)|(apply kc ();refine sc (ri _ _ V) ?_;clear V;rintro v w ⟨rfl,V⟩)|apply sX ()|(apply sS ();clear V;intro w V)|fail)
 all_goals (try (exfalso;simp_all;done))
 apply b5 ()
end
end Go.Proofs.YtmmbidoldegemaaGreatDoor
