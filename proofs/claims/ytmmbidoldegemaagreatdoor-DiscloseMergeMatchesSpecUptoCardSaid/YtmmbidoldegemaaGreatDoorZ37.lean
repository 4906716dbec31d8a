/- Part 38 of the proof that the law of the last part holds; no conditions. -/
import Derived.Test.YtmmbidoldegemaaGreatDoorZ36
set_option linter.unusedSimpArgs false
set_option linter.unusedVariables false
set_option maxRecDepth 8000
set_option maxHeartbeats 8000000
namespace Go.Proofs.YtmmbidoldegemaaGreatDoor
open Go.RowKit Go.Sl
section
variable {S:Ac} {M:List Chunk} {vi vg:Value} {c:Cq} {s:VS} {vv vs vp vn:Value}
set_option maxRecDepth 60000 in
theorem step_2 (w:World) (hst:St S M w) (hvi:RSl S vi c.1) (hvm:c.1.length≤1048576) (hvv:RSl S vv s.vars) (hvs:RSl S vs s.stack) (hvp:RSl S vp s.pts) (hvn:RSl S vn s.notes) (h3:s.steps < 3000) (hp0:0≤s.pc) (hp1:s.pc < c.1.length) (gd:EZ c s) {a b:Int} {u:Unit}
  (hi:c.1[s.pc.toNat]'(by omega)=(2,a,b,u)) (ha0:0≤a) (ha1:a < s.vars.length) (hlen:s.stack.length < 400) :
  Ad Tryz.prog 72 [RB vi c,On s vv vs vp vn 0,vg] w fun v w'=>Wa S M { Ir s with stack:=s.stack++[s.vars[a.toNat]'(by omega)] } v w':=by
 unfold Ad;obtain ⟨ai,ni,ci,rfl⟩:=HY hvi;obtain ⟨avq0,nv,cvq0,rfl⟩:=HY hvv;obtain ⟨az,nzq0,cz,rfl⟩:=HY hvs;obtain ⟨ap,np,cp,rfl⟩:=HY hvp;obtain ⟨an,nn,cn,rfl⟩:=HY hvn;have hsl:=gd.slen;have rp:∀ (M:List Chunk) (w:World),St S M w→Ad Tryz.prog 115 [.int .i64 2] w fun v w'=>v=.int .i64 0∧St S M w':=fun M w hst=>rpops_ok w hst 2 (by decide)
 go_enter Tryz.func72,Tryz.ntmps72;repeat' ((apply Z8 ());first|apply sG ()|(with_reducible refine Sl.k_guard ?_;refine Sl.guard_cases rfl ?_ ?_<;>intro hg<;>first|exact gX|(simp only [hg,Bool.not_true,Bool.not_false])<;>(try replace hg:=gN hg)<;>(try refine nX ?_))|(apply gK ();go_step)|apply sX ()|apply sP ()|(apply sI ();intro v hp)|(apply sS ();clear hst;intro w hst)|(apply sB ();clear hst;intro bx w hst)|(apply sA ();clear hst;intro bk w hst)|fail)
 rw [hi] at hst hp ⊢;simp only [insC] at hst ⊢;obtain ⟨k,rfl⟩:∃ k:Nat,a=(k:Int):=⟨a.toNat,by omega⟩
 (try simp only [Int.toNat_natCast]);repeat' (first|go_skip|apply sG ()|(apply gK ();go_step)|(apply kc ();refine sc (rp _ _ hst) ?_;clear hst;rintro v w ⟨rfl,hst⟩)|apply sX ()|fail)
 refine QR (a:=0) (b:=s.stack.length) Ab hvs Aa Aa (.inl ⟨rfl,rfl⟩) (.inr ⟨.i64,by simp [Ai,AX]⟩) (.inl rfl) (by omega) (by omega) ?_;intro vz hvz;rw [List.drop_zero,Nat.sub_zero,List.take_length] at hvz;obtain ⟨ay,nyq0,cy,rfl⟩:=HY hvz;(try refine nX ?_);have hzin:=gd.stack;have hw:=gd.vars _ (List.getElem_mem (show k < s.vars.length by omega));have hw0:=hw.1;repeat' (first|(apply gK ();go_step)|apply sX ()|(apply sN ();intro hI)|(apply sI ();intro v hp)|(apply sS ();clear hst;intro w hst)|fail)
 refine AA (vs:=[]) (cs:=[]) hst Aa Aa rfl rfl (by simp) rfl (by omega) (by omega) ?_;clear hst;intro x0 w hst;(try refine nX ?_);repeat' (first|apply sX ()|fail)
 refine A2 (α:=Int) (k:=0) hst Ab Ab rfl hvz Aa Aa Aa (by omega) (by omega) (by decide) ?_;clear hst;intro x2 w c2 hc2 hst;(try refine nX ?_);obtain rfl:=rl_ints_eq hc2;clear hc2;repeat' (first|(apply gK ();go_step)|fail)
 refine AA (vs:=[.int .i64 (s.vars[k]'(by omega))]) (cs:=cF Bf [(s.vars[k]'(by omega))]) hst Aa Aa rfl rfl (by simp [Value.cells]) rfl (by omega) (by omega) ?_;clear hst;intro x11 w hst;(try refine nX ?_);refine AG (k:=1) (j:=0) hst Ab Ab rfl rfl Aa Aa Aa (by simp [cF,Bf,Value.oneCell']) (by omega) (by omega) (by decide) ?_;clear hst;intro x12 w hst;(try refine nX ?_);simp only [List.set_cons_succ,List.set_cons_zero] at hst;replace hst:=hst.drop;have fz:=Re (s.stack++[(s.vars[k]'(by omega))]) (fun y hy=>dV (RI hzin hw y hy)) hst (by simp only [VO,List.nil_append]) (by simp only [List.length_append,List.length_cons,List.length_nil];omega);clear hst;obtain ⟨S2,hS2,hst,hsz⟩:=fz;obtain ⟨ax,nx,cx,rfl⟩:=HY hsz;repeat' (first|(apply gK ();go_step)|apply sX ()|(apply sS ();clear hst;intro w hst)|fail)
 refine Ca rfl hst rfl 1 rfl inferInstance rfl rfl ?_;exact ⟨_,rfl,S2,_,_,_,_,hS2,rfl,hvv.mono hS2,hsz,hvp.mono hS2,hvn.mono hS2,hst.drop.drop.drop.drop⟩
end
section
variable {S:Ac} {M:List Chunk} {vi vg:Value} {c:Cq} {s:VS} {vv vs vp vn:Value}
set_option maxRecDepth 60000 in
theorem step_bin {n:Int} (w:World) (hst:St S M w) (hvi:RSl S vi c.1) (hvm:c.1.length≤1048576) (hvv:RSl S vv s.vars) (hvs:RSl S vs s.stack) (hvp:RSl S vp s.pts) (hvn:RSl S vn s.notes) (h3:s.steps < 3000) (hp0:0≤s.pc) (hp1:s.pc < c.1.length) (gd:EZ c s) {a b:Int} {u:Unit}
  (hi:c.1[s.pc.toNat]'(by omega)=(n,a,b,u)) (hn:2≤s.stack.length) (h4:8≤n) (h10:n≤8) :
  Ad Tryz.prog 72 [RB vi c,On s vv vs vp vn 0,vg] w fun v w'=>Wa S M { Ir s with stack:=s.stack.take (s.stack.length - 2)++[PV n (Ed (Cb s)) (Ed s)] } v w':=by
 unfold Ad;obtain ⟨ai,ni,ci,rfl⟩:=HY hvi;obtain ⟨avq0,nv,cvq0,rfl⟩:=HY hvv;obtain ⟨az,nzq0,cz,rfl⟩:=HY hvs;obtain ⟨ap,np,cp,rfl⟩:=HY hvp;obtain ⟨an,nn,cn,rfl⟩:=HY hvn;have hsl:=gd.slen
 have rp:∀ (M:List Chunk) (w:World),St S M w→Ad Tryz.prog 115 [.int .i64 n] w fun v w'=>v=.int .i64 2∧St S M w':=fun M w hst=>by
  have:=rpops_ok w hst n (by omega)
  have e:popsV n=2:=by
   rcases (by omega:n=4∨n=5∨n=6∨n=7∨n=8∨n=9∨n=10) with rfl|rfl|rfl|rfl|rfl|rfl|rfl<;>rfl
  rwa [e] at this
 have ht1:=TH gd;have ht2:=TH (LE gd);have hw:=ba n (Ed (Cb s)) (Ed s);have hw0:=hw.1;have hw1:=hw.2;have rb:=fun (M:List Chunk) (w:World) (hst:St S M w)=>rbinary_c w hst n (Ed (Cb s)) (Ed s) (by omega) ht2 ht1
 generalize PV n (Ed (Cb s)) (Ed s)=z at *;obtain rfl:n=8:=by omega
 all_goals
  clear h4 h10;go_enter Tryz.func72,Tryz.ntmps72;repeat' ((apply Z8 ());first|apply sG ()|(with_reducible refine Sl.k_guard ?_;refine Sl.guard_cases rfl ?_ ?_<;>intro hg<;>first|exact gX|(simp only [hg,Bool.not_true,Bool.not_false])<;>(try replace hg:=gN hg)<;>(try refine nX ?_))|(apply gK ();go_step)|apply sX ()|apply sP ()|(apply sI ();intro v hp)|(apply sS ();clear hst;intro w hst)|(apply sB ();clear hst;intro bx w hst)|(apply sA ();clear hst;intro bk w hst)|fail)
  rw [hi] at hst hp ⊢;simp only [insC] at hst ⊢;repeat' (first|apply sG ()|(apply gK ();go_step)|(apply kc ();refine sc (rp _ _ hst) ?_;clear hst;rintro v w ⟨rfl,hst⟩)|apply sX ()|(apply sN ();intro hI)|(apply sI ();intro v hp)|fail)
  obtain ⟨zs,hzs⟩:∃ zs,s.stack.take (s.stack.length - 2)=zs:=⟨_,rfl⟩
  have hzl:zs.length=s.stack.length - 2:=by rw [← hzs,List.length_take];omega
  have hzin:∀ y∈zs,Gb y:=hzs▸Hy gd.stack
  refine QR (a:=0) (b:=s.stack.length - 2) Ab hvs Aa Aa (.inl ⟨rfl,rfl⟩) (.inr ⟨.i64,by simp [Ai,AX];omega⟩) (.inl rfl) (by omega) (by omega) ?_;intro vz hvz;rw [List.drop_zero,Nat.sub_zero,hzs] at hvz;obtain ⟨ay,nyq0,cy,rfl⟩:=HY hvz;(try refine nX ?_);simp only [top_ata (show 1≤s.stack.length by omega),top2_ata hn];repeat' (first|(apply gK ();go_step)|(apply kc ();refine sc (rb _ _ hst) ?_;clear hst;rintro v w ⟨rfl,hst⟩)|apply sX ()|(apply sS ();clear hst;intro w hst)|fail)
  refine AA (vs:=[]) (cs:=[]) hst Aa Aa rfl rfl (by simp) rfl (by omega) (by omega) ?_;clear hst;intro x0 w hst;(try refine nX ?_);repeat' (first|apply sX ()|fail)
  refine A2 (α:=Int) (k:=0) hst Ab Ab rfl hvz Aa Aa Aa (by omega) (by omega) (by decide) ?_;clear hst;intro x2 w c2 hc2 hst;(try refine nX ?_);obtain rfl:=rl_ints_eq hc2;clear hc2;repeat' (first|(apply gK ();go_step)|fail)
  refine AA (vs:=[.int .i64 z]) (cs:=cF Bf [z]) hst Aa Aa rfl rfl (by simp [Value.cells]) rfl (by omega) (by omega) ?_;clear hst;intro x11 w hst;(try refine nX ?_);refine AG (k:=1) (j:=0) hst Ab Ab rfl rfl Aa Aa Aa (by simp [cF,Bf,Value.oneCell']) (by omega) (by omega) (by decide) ?_;clear hst;intro x12 w hst;(try refine nX ?_);simp only [List.set_cons_succ,List.set_cons_zero] at hst;replace hst:=hst.drop;have fz:=Re (zs++[z]) (fun y hy=>dV (RI hzin hw y hy)) hst (by simp only [VO,List.nil_append]) (by simp only [List.length_append,List.length_cons,List.length_nil];omega);clear hst;obtain ⟨S2,hS2,hst,hsz⟩:=fz;obtain ⟨ax,nx,cx,rfl⟩:=HY hsz;subst hzs;repeat' (first|(apply gK ();go_step)|apply sX ()|(apply sS ();clear hst;intro w hst)|fail)
  refine Ca rfl hst rfl 1 rfl inferInstance rfl rfl ?_;exact ⟨_,rfl,S2,_,_,_,_,hS2,rfl,hvv.mono hS2,hsz,hvp.mono hS2,hvn.mono hS2,hst.drop.drop.drop.drop⟩
end
section
variable {S:Ac} {M:List Chunk} {vi vg:Value} {c:Cq} {s:VS} {vv vs vp vn:Value}
set_option maxRecDepth 60000 in
theorem step_12m (w:World) (hst:St S M w) (hvi:RSl S vi c.1) (hvm:c.1.length≤1048576) (hvv:RSl S vv s.vars) (hvs:RSl S vs s.stack) (hvp:RSl S vp s.pts) (hvn:RSl S vn s.notes) (h3:s.steps < 3000) (hp0:0≤s.pc) (hp1:s.pc < c.1.length) (gd:EZ c s) {a b:Int} {u:Unit}
  (hi:c.1[s.pc.toNat]'(by omega)=(12,a,b,u)) {gl:List Int} (hgl:RSl S vg gl) (hgm:gl.length≤1048576) (hn:1≤s.stack.length) (hb0:0≤b) (hb2:b < s.pts.length) (hb1:b < c.2.2.1) (hpn:s.pts.length≤8) (h0:Ed s=0) (hz:gl.contains (s.br:Int)=false) :
  Ad Tryz.prog 72 [RB vi c,On s vv vs vp vn 0,vg] w fun v w'=>Wa S M { Ir s with stack:=s.stack.take (s.stack.length - 1),br:=s.br+1,pts:=Fm s.pts b (Q4 (s.pts[b.toNat]'(by omega)) 2),pc:=a } v w':=by
 unfold Ad;obtain ⟨ai,ni,ci,rfl⟩:=HY hvi;obtain ⟨avq0,nv,cvq0,rfl⟩:=HY hvv;obtain ⟨az,nzq0,cz,rfl⟩:=HY hvs;obtain ⟨ap,np,cp,rfl⟩:=HY hvp;obtain ⟨an,nn,cn,rfl⟩:=HY hvn;have hsl:=gd.slen;have rp:∀ (M:List Chunk) (w:World),St S M w→Ad Tryz.prog 115 [.int .i64 12] w fun v w'=>v=.int .i64 1∧St S M w':=fun M w hst=>rpops_ok w hst 12 (by decide)
 go_enter Tryz.func72,Tryz.ntmps72;repeat' ((apply Z8 ());first|apply sG ()|(with_reducible refine Sl.k_guard ?_;refine Sl.guard_cases rfl ?_ ?_<;>intro hg<;>first|exact gX|(simp only [hg,Bool.not_true,Bool.not_false])<;>(try replace hg:=gN hg)<;>(try refine nX ?_))|(apply gK ();go_step)|apply sX ()|apply sP ()|(apply sI ();intro v hp)|(apply sS ();clear hst;intro w hst)|(apply sB ();clear hst;intro bx w hst)|(apply sA ();clear hst;intro bk w hst)|fail)
 rw [hi] at hst hp ⊢;simp only [insC] at hst ⊢;obtain ⟨k,rfl⟩:∃ k:Nat,b=(k:Int):=⟨b.toNat,by omega⟩
 (try simp only [Int.toNat_natCast]);repeat' (first|apply sG ()|(with_reducible refine Sl.k_guard ?_;refine Sl.guard_cases rfl ?_ ?_<;>intro hg<;>first|exact gX|(simp only [hg,Bool.not_true,Bool.not_false])<;>(try replace hg:=gN hg)<;>(try refine nX ?_))|(apply gK ();go_step)|(apply kc ();refine sc (rp _ _ hst) ?_;clear hst;rintro v w ⟨rfl,hst⟩)|apply sX ()|(apply sN ();intro hI)|(apply sI ();intro v hp)|fail)
 obtain ⟨zs,hzs⟩:∃ zs,s.stack.take (s.stack.length - 1)=zs:=⟨_,rfl⟩
 have hzl:zs.length=s.stack.length - 1:=by rw [← hzs,List.length_take];omega
 have hzin:∀ y∈zs,Gb y:=hzs▸Hy gd.stack
 refine QR (a:=0) (b:=s.stack.length - 1) Ab hvs Aa Aa (.inl ⟨rfl,rfl⟩) (.inr ⟨.i64,by simp [Ai,AX];omega⟩) (.inl rfl) (by omega) (by omega) ?_;intro vz hvz;rw [List.drop_zero,Nat.sub_zero,hzs] at hvz;obtain ⟨ay,nyq0,cy,rfl⟩:=HY hvz;(try refine nX ?_);have hw:=TH gd;simp only [top_ata hn];have hpin:=gd.pts _ (List.getElem_mem (show k < s.pts.length by omega));have ri:=fun (M:List Chunk) (w:World) (hst:St S M w)=>(rin_c w hst vg gl hgl hgm (s.br:Int)).eq hz
 have hbr:=gd.br;have rb:=fun (M:List Chunk) (w:World) (hst:St S M w)=>rwith_da w hst _ s.pts hvp (by omega) k (by omega) (Q4 (s.pts[k]'(by omega)) 2) (pt_i64 (dv hpin ⟨by decide,by decide⟩))
 repeat' ((fail_if_success (with_reducible show Code.wp _ (Code.region 54 _ _) _ _ _));first|(apply gK ();go_step)|(apply kc ();refine sc (ri _ _ hst) ?_;clear hst;rintro v w ⟨rfl,hst⟩)|apply sX ()|(apply sS ();clear hst;intro w hst)|fail)
 all_goals (try (exfalso;simp_all;done))
 refine AF hst kr ?_;clear hst;intro ops;(try refine nX ?_);refine td 0 rfl ?_;refine td 1 rfl ?_;refine td 2 rfl ?_;refine td 3 rfl ?_;refine td 4 rfl ?_;refine td 5 rfl ?_;refine td 6 rfl ?_;refine td 7 rfl ?_;refine td 8 rfl ?_;refine td 9 rfl ?_;refine tx 10 rfl (Ao Ab hvp rfl Aa Aa Af Af) ?_;rintro v10 hp10;replace hp10:=iN hp10;refine tx 11 rfl (Am Ab hp10 Aa) ?_;rintro v11 ⟨rfl,h11⟩;refine td 12 rfl ?_;refine tq 13 rfl (qt_orI rfl rfl hpin ⟨by decide,by decide⟩) ?_;refine AR 14 rfl kr ?_;intro w hst K hK;refine B9 (rb _ _ hst) Aa rfl ?_;clear hst;rintro v w ⟨S2,a2,n2,c2,hS2,rfl,hsv,hst⟩;(try refine nX ?_);(try replace hst:=nH hst);refine Bn hK hst hS2 (Suf.refl _) ?_;clear hst hK K;(try clear w);(try refine nX ?_);refine td 15 rfl ?_;refine td 16 rfl ?_;refine AR 17 rfl kr ?_;intro w hst K hK;(refine AB hst rfl _ BoxIn.h Aa Ab rfl A6 A5 (by simp<;>omega) ?_);clear hst;intro w hst;(try refine nX ?_);(try replace hst:=nH hst);refine Bb hK hst ?_;clear hst hK K;(try clear w);(try refine nX ?_);refine AK kr ?_;clear ops;intro w hst;all_goals trace_state
 repeat' (first|(apply gK ();go_step)|apply sX ()|(apply sS ();clear hst;intro w hst)|fail)
 refine Ca rfl hst rfl 1 rfl inferInstance rfl rfl ?_;exact ⟨_,rfl,S2,_,_,_,_,hS2,rfl,hvv.mono hS2,hzs▸hvz.mono hS2,hsv,hvn.mono hS2,hst.drop.drop.drop.drop⟩
end
abbrev Sd:TypeId:=148
abbrev Te:TypeId:=92
abbrev XT:TypeId:=3
def Ny (Rc:VS→Prop) (c:Cq) (gl:List Int):Prop:=∀ {S:Ac} {M:List Chunk} {vi vg:Value} {s:VS} {vv vs vp vn:Value} (w:World) (_:St S M w) (_:RSl S vi c.1) (_:c.1.length≤1048576) (_:RSl S vv s.vars) (_:RSl S vs s.stack) (_:RSl S vp s.pts) (_:RSl S vn s.notes) (_:EZ c s) (_:Rc s∧s.done=false) (_:RSl S vg gl) (_:gl.length≤1048576) (_:c.2.1≤400) (_:c.2.2.1≤8),
  Ad Tryz.prog 72 [RB vi c,On s vv vs vp vn 0,vg] w fun v w'=>bj S M (FT c gl s) v w'
theorem Xx {c:Cq} {inputs:List Int} (e:Hu c inputs=true):0≤c.2.2.1∧c.2.2.1≤8∧(inputs.length:Int)≤c.2.1∧c.2.1≤400∧∀ x∈inputs,0≤x∧x < 65536:=by
 unfold Hu at e;simp only [Bool.and_eq_true,decide_eq_true_eq,List.all_eq_true] at e;obtain ⟨⟨⟨⟨h1,h2⟩,h3⟩,h4⟩,h5⟩:=e;exact ⟨h1,h2,h3,h4,h5⟩
theorem Yu (xs:List Int) (k:Nat) (h:k < xs.length):cF Bf (xs.take k)++[Value.int .i64 xs[k]]=cF Bf (xs.take (k+1)):=by
 rw [List.take_succ_eq_append_getElem h,VO];rfl
def i9:VR→GZ×Nat
 | .ok s=>(O2 s,0)
 | .err e=>(Xr,e)
theorem bH {c:Cq} {inputs gl:List Int} {r:GZ×Nat} (hr:JL c inputs gl=r) (h:Hu c inputs=true):i9 (GV c gl 3001 (CV c inputs))=r:=by
 rw [← hr];unfold JL;rw [if_pos h]
 cases GV c gl 3001 (CV c inputs)<;>rfl
theorem aX (xs:List Int) (x:Int):cF Bf xs++[Value.int .i64 x]=cF Bf (xs++[x]):=by rw [VO];rfl
set_option maxRecDepth 60000 in
theorem bW {Rc:VS→Prop} {S M} (w:World) (hst:St S M w) (vi:Value) (c:Cq) (hvi:RSl S vi c.1) (hvm:c.1.length≤1048576) (vs:Value) (inputs:List Int) (hin:RSl S vs inputs) (him:inputs.length≤1048576) (vg:Value) (gl:List Int) (hgl:RSl S vg gl) (hgm:gl.length≤1048576) (hv:Hu c inputs=true) (hS:Ny Rc c gl) (hR:∀ s,Rc s→s.done=false→∃ s',FT c gl s=.ok s'∧Rc s') (h0:Rc (CV c inputs)) {r:GZ×Nat} (hr:JL c inputs gl=r) :
  Ad Tryz.prog 38 [RB vi c,vs,vg] w fun v w'=>YA S M r v w':=by
 unfold Ad;have hI64:=WU hin;obtain ⟨ai,ni,ci,rfl⟩:=HY hvi;obtain ⟨aj,nj,cj,rfl⟩:=HY hin;obtain ⟨ag,ng,cg,rfl⟩:=HY hgl;obtain ⟨k1,k2,k3,k4,hx5⟩:=Xx hv;have h1:¬ c.2.2.1 < 0:=by omega
 have h2:¬ c.2.2.1 > 8:=by omega
 have h3:¬ c.2.1 < (inputs.length:Int):=by omega
 have h4:¬ c.2.1 > 400:=by omega
 clear k1 k2 k3 k4;obtain ⟨ins,nv,np,u⟩:=c;obtain ⟨nv,rfl⟩:∃ n:Nat,nv=(n:Int):=⟨nv.toNat,by simp only at h3;omega⟩
 obtain ⟨np,rfl⟩:∃ n:Nat,np=(n:Int):=⟨np.toNat,by simp only at h1;omega⟩
 obtain ⟨⟩:=u;simp only at h1 h2 h3 h4 hvi hvm hS hR h0;have hR:=Lib.hid hR;have hS:Hid (Ny Rc (ins,(nv:Int),(np:Int),()) gl):=Lib.hid hS;go_enter Tryz.func38,Tryz.ntmps38;repeat' ((apply Z1 ());first|(apply gK ();go_step)|(apply sB ();clear hst;intro bx w hst)|(apply sA ();clear hst;intro bk w hst)|fail)
 obtain ⟨bo,rfl⟩:∃ b,b=bk:=⟨_,rfl⟩
 repeat' (first|apply sG ()|(apply gK ();go_step)|apply sX ()|fail)
 refine IW (n:=np) hst Aa Aa Ab Ab (by omega) (by omega) ?_;clear hst;intro v33 w hst;(try refine nX ?_);obtain ⟨a33,n33,c33,rfl⟩:=Zi hst;have e2:(List.replicate np [Value.int IntKind.i64 0]).flatten=cF Bf (List.replicate np 0):=J8 Bf 0 np;rw [e2] at hst;have x1:=Re (List.replicate np (0:Int)) (fun x hx=>by rw [(List.mem_replicate.1 hx).2];unfold Au;omega) hst rfl (by simp);clear hst e2;obtain ⟨S1,hS1,hst,hvp⟩:=x1;replace hvi:=hvi.mono hS1;replace hin:=hin.mono hS1;replace hgl:=hgl.mono hS1;have hk2:=hr;clear hr;repeat' (first|(apply gK ();go_step)|(apply sS ();clear hst;intro w hst)|(apply sA ();clear hst;intro bk w hst)|fail)
 have hst:=hst.nil XT 1
 go_loopw [9] (fun v wr=>∃ (k:Nat) (u:Value),k≤inputs.length∧v=.int .i64 k∧u.oneCell'=true∧(∀ j (h:j < inputs.length),j < k→0≤inputs[j]∧inputs[j] < 65536)∧St S1 (.sl u XT 1 k (cF Bf (inputs.take k))::.box bk [.int .i64 0,u,.slice none 0 0,.slice a33 n33 c33,.slice none 0 0,.int .i64 0,.int .i64 0,.int .i64 0,.bool false,.int .i64 0] Sd::.box bo KD Ss::.box bx [.slice ai ni ci,.int .i64 (nv:Int),.int .i64 (np:Int)] Te::M) wr) (fun v _=>inputs.length - (intOf v).toNat)
 case atStart=>exact ⟨0,_,Nat.zero_le _,rfl,rfl,fun j _ h=>by omega,hst⟩
 case round =>
  clear hst;obtain ⟨k,u,hk,rfl,hu,hpre,hst⟩:=hrel;by_cases hlt:k < inputs.length
  ·have hx:=hx5 _ (List.getElem_mem hlt);have hx1:¬ inputs[k] < 0:=by omega
   have hx2:¬ inputs[k] > 65535:=by omega
   repeat' ((apply Z9 ());first|apply sG ()|(apply gK ();go_step)|apply sX ()|(apply sN ();intro hI)|(apply sI ();intro v hp)|fail)
   refine AF hst kr ?_;clear hst;intro ops;(try refine nX ?_);refine td 0 rfl ?_;refine td 1 rfl ?_;refine td 2 rfl ?_;refine td 3 rfl ?_;refine tx 4 rfl (Ao Ab hin rfl Aa Aa Af Af) ?_;rintro v4 hp4;replace hp4:=iN hp4;refine tx 5 rfl (Am Ab hp4 Aa) ?_;rintro v5 ⟨rfl,h5⟩;refine AR 6 rfl kr ?_;intro w hst K hK;refine AA (vs:=[.int .i64 inputs[k]]) hst Aa Aa rfl rfl (by simp [Value.cells]) rfl (by omega) (by omega) ?_;clear hst;intro x6 w hst;(try refine nX ?_);(try replace hst:=nH hst);refine Bn hK hst (Ac.Le.refl _) (Suf.cons (Suf.refl _)) ?_;clear hst hK K;(try clear w);(try refine nX ?_);refine AR 7 rfl kr ?_;intro w hst K hK;refine AG (j:=0) hst Ab Ab SlIn.h rfl Aa Aa Aa ((by simp [Value.oneCell'])) (by omega) (by omega) (by decide) ?_;clear hst;intro x7 w hst;(try refine nX ?_);(try replace hst:=nH hst);replace hst:=hst.drop;have hone7:=AW hst;refine Bb hK hst ?_;clear hst hK K;(try clear w);(try refine nX ?_);refine td 8 rfl ?_;refine AR 9 rfl kr ?_;intro w hst K hK;(refine EV hst rfl BoxIn.h Ab Ak Aa (by simp<;>omega) ?_);clear hst;intro w hst;(try refine nX ?_);(try replace hst:=nH hst);refine Bb hK hst ?_;clear hst hK K;(try clear w);(try refine nX ?_);refine AK kr ?_;clear ops;intro w hst
   all_goals
    rw [Yu _ _ hlt] at hst;repeat' (first|(apply gK ();go_step)|fail)
    go_roundw
    case rel=>exact ⟨k+1,x7,by omega,by go_num,hone7,fun j hj h=>(by rcases Nat.lt_succ_iff_lt_or_eq.1 h with h|rfl;exact hpre j hj h;omega),hst⟩
    case measure=>simp [intOf];omega
  ·obtain rfl:k=inputs.length:=by omega
   rw [List.take_length] at hst;clear hpre;have gd0:=R0 hv;have hk3:=bH hk2 hv;clear hv hx5;have h0:=Lib.hid h0;obtain ⟨r0,hr0⟩:∃ r0,GV (ins,(nv:Int),(np:Int),()) gl 3001 (CV (ins,(nv:Int),(np:Int),()) inputs)=r0:=⟨_,rfl⟩
   rw [hr0] at hk3;clear hk2;repeat' (first|(apply gK ();go_step)|apply sX ()|fail)
   go_loopg [] (nv - inputs.length) (fun g wr=>∃ (u:Value) (xs:List Int),g+xs.length=nv∧xs++List.replicate g 0=(CV (ins,(nv:Int),(np:Int),()) inputs).vars∧u.oneCell'=true∧St S1 (.sl u XT 1 xs.length (cF Bf xs)::.box bk [.int .i64 0,u,.slice none 0 0,.slice a33 n33 c33,.slice none 0 0,.int .i64 0,.int .i64 0,.int .i64 0,.bool false,.int .i64 0] Sd::.box bo KD Ss::.box bx [.slice ai ni ci,.int .i64 (nv:Int),.int .i64 (np:Int)] Te::M) wr)
   case atStart=>exact ⟨u,inputs,by omega,rfl,hu,hst⟩
   case round =>
    clear hst u hu;obtain ⟨u,xs,hg,hvx,hu,hst⟩:=hrel;by_cases hlt2:xs.length < nv
    ·obtain ⟨j,rfl⟩:∃ j,gk=j+1:=⟨gk - 1,by omega⟩
     repeat' (first|(apply gK ();go_step)|apply sX ()|fail)
     refine AA (vs:=[.int .i64 0]) hst Aa Aa rfl rfl (by simp [Value.cells]) rfl (by omega) (by omega) ?_;clear hst;intro u w hst;refine nX ?_;refine AG (j:=0) hst Ab Ab SlIn.h rfl Aa Aa Aa (by simp [Value.cells,Value.oneCell']) (by omega) (by omega) (by decide) ?_;clear hst;intro v' w hst;refine nX ?_;(try replace hst:=nH hst);replace hst:=hst.drop;rw [aX] at hst;have hone:=AW hst;repeat' (first|(with_reducible refine kS ?_;refine EV hst rfl BoxIn.h Ab Ak Aa (by simp) ?_;clear hst;intro w hst<;>(try refine nX ?_)<;>(try replace hst:=nH hst))|(apply gK ();go_step)|apply sX ()|fail)
     go_roundg j
     case measure=>omega
     case rel=>exact ⟨_,xs++[0],by simp only [List.length_append,List.length_singleton];omega,by rw [← hvx,List.append_assoc,List.singleton_append,← List.replicate_succ],hone,by rw [List.length_append,List.length_singleton];exact hst⟩
    ·obtain rfl:gk=0:=by omega
     rw [List.replicate_zero,List.append_nil] at hvx;have x2:=Re xs (fun x hx=>dV (gd0.vars x (hvx▸hx))) hst rfl rfl;clear hst;obtain ⟨S2,hS2,hst,hvv⟩:=x2;replace hvi:=hvi.mono hS2;replace hin:=hin.mono hS2;replace hgl:=hgl.mono hS2;replace hvp:RSl S2 _ (CV (ins,(nv:Int),(np:Int),()) inputs).pts:=hvp.mono hS2;have hvs:RSl S2 (.slice none 0 0) (CV (ins,(nv:Int),(np:Int),()) inputs).stack:=Sz;have hvn:RSl S2 (.slice none 0 0) (CV (ins,(nv:Int),(np:Int),()) inputs).notes:=Sz;have hS3:=hS1.trans hS2;clear hS1 hS2 hu hg;have HVX:=Lib.hid hvx;clear hvx;repeat' (first|(apply gK ();go_step)|apply sX ()|fail)
     clear hlt2;rw [HVX.out] at hvv;clear HVX;have hs9:=hr0;clear hr0
     go_loopg [] 3001 (fun g wr=>(∃ (S':Ac) (s:VS) (vv vs vp vn:Value),Hid (Rc s)∧S.Le S'∧EZ (ins,(nv:Int),(np:Int),()) s∧3001≤g+s.steps∧GV (ins,(nv:Int),(np:Int),()) gl g s=r0∧RSl S' (.slice ai ni ci) ins∧RSl S' (.slice ag ng cg) gl∧RSl S' vv s.vars∧RSl S' vs s.stack∧RSl S' vp s.pts∧RSl S' vn s.notes∧St S' (.box bk (QO s vv vs vp vn 0) Sd::.box bo KD Ss::.box bx [.slice ai ni ci,.int .i64 (nv:Int),.int .i64 (np:Int)] Te::M) wr))
     case atStart=>exact ⟨S2,_,_,_,_,_,h0,hS3,gd0,Nat.le_add_right _ _,hs9,hvi,hgl,hvv,hvs,hvp,hvn,hst⟩
     case round =>
      clear hst hvi hin hgl hvp hvv hvs hvn gd0 hs9 hS3;obtain ⟨S',s,vv,vs,vp,vn,hrc,hS1,gd,hk,hrun,hvi,hgl,hvv,hvs,hvp,hvn,hst⟩:=hrel;have hgs:=gd.steps;obtain ⟨j,rfl⟩:∃ j,gk=j+1:=⟨gk - 1,by omega⟩
      rw [GV] at hrun;have k1:=hvv.oneCell;have k2:=hvs.oneCell;have k3:=hvp.oneCell;have k4:=hvn.oneCell
      cases hd:s.done with
      | true =>
       rw [hd,if_pos rfl] at hrun;subst hrun;rw [QO,hd] at hst;repeat' (first|apply sG ()|(apply gK ();go_step)|apply sX ()|fail)
       refine AB (cs:=du vp vn s.fin (s.steps:Int)) hst rfl _ BoxIn.h Aa Ab rfl rfl (by show (vp.oneCell' && (vn.oneCell' && (true && (true && true))))=true;rw [k3,k4];rfl) (by simp) ?_;clear hst;intro w hst;(try replace hst:=nH hst);repeat' (first|(apply gK ();go_step)|fail)
       refine A7 rfl (AT hst rfl _ BoxIn.h Aa rfl rfl) (A3 rfl) ?_;(try simp only [AX,List.drop_zero,List.drop_succ_cons,List.take_succ_cons,List.take_zero,As,Ap]);obtain ⟨ap,np',cp,rfl⟩:=HY hvp;obtain ⟨an,nn,cn,rfl⟩:=HY hvn;subst hk3;exact ⟨_,rfl,S',_,_,_,_,_,_,hS1,rfl,hvp,hvn,hst.drop.drop.drop⟩
      | false =>
       rw [hd,if_neg (by simp)] at hrun;obtain ⟨s',hsv,hrc2⟩:=hR.out s hrc.out hd;have hrc2:=Lib.hid hrc2;have hsp:=hS.out (M:=.box bk (QO s vv vs vp vn 0) Sd::.box bo KD Ss::.box bx [.slice ai ni ci,.int .i64 (nv:Int),.int .i64 (np:Int)] Te::M) wr hst hvi hvm hvv hvs hvp hvn gd ⟨hrc.out,hd⟩ hgl hgm (by show (nv:Int)≤400;omega) (by show (np:Int)≤8;omega);have hsg:=TY (gl:=gl) gd hd;rw [QO,hd] at hst;rw [QO,On,hd] at hsp;rw [hsv] at hsp hsg hrun;obtain ⟨hg1',hg2'⟩:=hsg;have hsp':Ad _ _ _ _ (fun v w'=>Wa S' _ s' v w'):=hsp;clear hsp hsv;repeat' (first|apply sG ()|(apply gK ();go_step)|(apply kc ();refine sc (hsp') ?_;clear hst;rintro v w ⟨S2,vv2,vs2,vp2,vn2,hS2,rfl,hvv2,hvs2,hvp2,hvn2,hst⟩)|apply sX ()|fail)
       have q1:=hvv2.oneCell;have q2:=hvs2.oneCell;have q3:=hvp2.oneCell;have q4:=hvn2.oneCell;refine AB (cs:=QO s' vv2 vs2 vp2 vn2 0) hst rfl _ BoxIn.h Aa Ab rfl rfl (by show (true && (vv2.oneCell' && (vs2.oneCell' && (vp2.oneCell' && (vn2.oneCell' && (true && (true && (true && (true && (true && true))))))))))=true;rw [q1,q2,q3,q4];rfl) (by simp) ?_;clear hst;intro w hst;(try replace hst:=nH hst);repeat' (first|(apply gK ();go_step)|fail)
       go_roundg j
       case measure=>omega
       case rel=>exact ⟨S2,s',vv2,vs2,vp2,vn2,hrc2,hS1.trans hS2,hg1',by omega,hrun,hvi.mono hS2,hgl.mono hS2,hvv2,hvs2,hvp2,hvn2,hst⟩
end Go.Proofs.YtmmbidoldegemaaGreatDoor
