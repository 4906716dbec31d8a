/- Part 36 of a proof; no conditions. -/
import Derived.Test.YtmmbidoldegemaaGreatDoorZ32
import Derived.Test.YtmmbidoldegemaaGreatDoorZ33
import Derived.Test.YtmmbidoldegemaaGreatDoorZ34
set_option linter.all false
set_option maxRecDepth 8000
set_option maxHeartbeats 8000000
namespace Go.Proofs.YtmmbidoldegemaaGreatDoor
open Go.RowKit Go.Sl Go.Proofs.Tryz
section
variable {S:Ad} {M:List J} {vi vg:Value} {c:B9} {s:VS} {vv vs vp vn:Value}
set_option maxRecDepth 60000 in
theorem Tl (w:World) (V:St S M w) (hvi:RSl S vi c.1) (hvm:c.1.length≤1048576) (hvv:RSl S vv s.vars) (hvs:RSl S vs s.stack) (hvp:RSl S vp s.pts) (hvn:RSl S vn s.notes) (h3:s.steps < 3000) (gd:Br c s) (hp0:0≤s.pc) (hp1:s.pc < c.1.length) {a b:Int} {u:Unit} (hi:c.1[s.pc.toNat]'(by omega)=(12,a,b,u)) (hn:1≤s.stack.length) (hv:¬ (0≤b∧b < c.2.2.1)) :
  Ac prog 72 [Bs vi c,BU s vv vs vp vn 0,vg] w fun v w'=>D4 S M 21 v w':=by
 unfold Ac;obtain ⟨ai,ni,ci,rfl⟩:=Ae hvi;obtain ⟨av,nv,cv,rfl⟩:=Ae hvv;obtain ⟨az,nz,cz,rfl⟩:=Ae hvs;obtain ⟨ap,np,cp,rfl⟩:=Ae hvp;obtain ⟨an,nn,cn,rfl⟩:=Ae hvn;have hsl:=gd.slen;have rp:∀ (M:List J) (w:World),St S M w→Ac prog 115 [.int .i64 12] w fun v w'=>v=.int .i64 1∧St S M w':=fun M w V=>BI w V 12 (by decide)
 by_cases hb:b < 0
 all_goals
  go_enter func72,ntmps72;repeat' ((apply ZZ 8);first|apply sG ()|(with_reducible refine Sl.k_guard ?_;refine Sl.guard_cases rfl ?_ ?_<;>intro hg<;>first|exact gX|(simp only [hg,Bool.not_true,Bool.not_false])<;>(try replace hg:=gN hg)<;>apply nW ())|(apply O ();go_step)|apply sX ()|apply sP ()|(apply sI ();intro v L)|(apply sS ();clear V;intro w V)|(apply sB ();clear V;intro bx w V)|(apply sA ();clear V;intro bk w V)|fail)
  rw [hi] at V L ⊢;simp only [Ee] at V ⊢;repeat' (first|go_skip|apply sG ()|(with_reducible refine Sl.k_guard ?_;refine Sl.guard_cases rfl ?_ ?_<;>intro hg<;>first|exact gX|(simp only [hg,Bool.not_true,Bool.not_false])<;>(try replace hg:=gN hg)<;>apply nW ())|(apply O ();go_step)|(apply kc ();refine sc (rp _ _ V) ?_;clear V;rintro v w ⟨rfl,V⟩)|apply sX ()|(apply sS ();clear V;intro w V)|fail)
  all_goals (try (exfalso;omega))
  apply SO ()
set_option maxRecDepth 60000 in
theorem Tj (w:World) (V:St S M w) (hvi:RSl S vi c.1) (hvm:c.1.length≤1048576) (hvv:RSl S vv s.vars) (hvs:RSl S vs s.stack) (hvp:RSl S vp s.pts) (hvn:RSl S vn s.notes) (h3:s.steps < 3000) (hp0:0≤s.pc) (hp1:s.pc < c.1.length) (gd:Br c s) {a b:Int} {u:Unit}
  (hi:c.1[s.pc.toNat]'(by omega)=(1,a,b,u)) (hlen:¬ s.stack.length < 400) :
  Ac prog 72 [Bs vi c,BU s vv vs vp vn 0,vg] w fun v w'=>D4 S M 2 v w':=by
 unfold Ac;obtain ⟨ai,ni,ci,rfl⟩:=Ae hvi;obtain ⟨av,nv,cv,rfl⟩:=Ae hvv;obtain ⟨az,nz,cz,rfl⟩:=Ae hvs;obtain ⟨ap,np,cp,rfl⟩:=Ae hvp;obtain ⟨an,nn,cn,rfl⟩:=Ae hvn;have hsl:=gd.slen;have rp:∀ (M:List J) (w:World),St S M w→Ac prog 115 [.int .i64 1] w fun v w'=>v=.int .i64 0∧St S M w':=fun M w V=>BI w V 1 (by decide)
 go_enter func72,ntmps72;repeat' ((apply ZZ 8);first|apply sG ()|(with_reducible refine Sl.k_guard ?_;refine Sl.guard_cases rfl ?_ ?_<;>intro hg<;>first|exact gX|(simp only [hg,Bool.not_true,Bool.not_false])<;>(try replace hg:=gN hg)<;>apply nW ())|(apply O ();go_step)|apply sX ()|apply sP ()|(apply sI ();intro v L)|(apply sS ();clear V;intro w V)|(apply sB ();clear V;intro bx w V)|(apply sA ();clear V;intro bk w V)|fail)
 rw [hi] at V L ⊢;simp only [Ee] at V ⊢;repeat' (first|apply sG ()|(apply O ();go_step)|(apply kc ();refine sc (rp _ _ V) ?_;clear V;rintro v w ⟨rfl,V⟩)|apply sX ()|fail)
 refine CG (a:=0) (b:=s.stack.length) X hvs Y Y (.inl ⟨rfl,rfl⟩) (.inr ⟨.i64,by simp [Ai,AV]⟩) (.inl rfl) (by omega) (by omega) ?_;intro vz hvz;rw [List.drop_zero,Nat.sub_zero,List.take_length] at hvz;obtain ⟨ay,ny,cy,rfl⟩:=Ae hvz;apply nW ();have hzin:=gd.stack;have hw:=J2 a;have hw0:=hw.1;have rw1:=fun (M:List J) (w:World) (V:St S M w)=>JJ w V a
 repeat' (first|(apply O ();go_step)|(apply kc ();refine sc (rw1 _ _ V) ?_;clear V;rintro v w ⟨rfl,V⟩)|apply sX ()|(apply sS ();clear V;intro w V)|fail)
 apply jG ()
set_option maxRecDepth 60000 in
theorem Ti (w:World) (V:St S M w) (hvi:RSl S vi c.1) (hvm:c.1.length≤1048576) (hvv:RSl S vv s.vars) (hvs:RSl S vs s.stack) (hvp:RSl S vp s.pts) (hvn:RSl S vn s.notes) (h3:s.steps < 3000) (hp0:0≤s.pc) (hp1:s.pc < c.1.length) (gd:Br c s) {a b:Int} {u:Unit}
  (hi:c.1[s.pc.toNat]'(by omega)=(2,a,b,u)) (ha0:0≤a) (ha1:a < s.vars.length) (hlen:¬ s.stack.length < 400) :
  Ac prog 72 [Bs vi c,BU s vv vs vp vn 0,vg] w fun v w'=>D4 S M 2 v w':=by
 unfold Ac;obtain ⟨ai,ni,ci,rfl⟩:=Ae hvi;obtain ⟨av,nv,cv,rfl⟩:=Ae hvv;obtain ⟨az,nz,cz,rfl⟩:=Ae hvs;obtain ⟨ap,np,cp,rfl⟩:=Ae hvp;obtain ⟨an,nn,cn,rfl⟩:=Ae hvn;have hsl:=gd.slen;have rp:∀ (M:List J) (w:World),St S M w→Ac prog 115 [.int .i64 2] w fun v w'=>v=.int .i64 0∧St S M w':=fun M w V=>BI w V 2 (by decide)
 go_enter func72,ntmps72;repeat' ((apply ZZ 8);first|apply sG ()|(with_reducible refine Sl.k_guard ?_;refine Sl.guard_cases rfl ?_ ?_<;>intro hg<;>first|exact gX|(simp only [hg,Bool.not_true,Bool.not_false])<;>(try replace hg:=gN hg)<;>apply nW ())|(apply O ();go_step)|apply sX ()|apply sP ()|(apply sI ();intro v L)|(apply sS ();clear V;intro w V)|(apply sB ();clear V;intro bx w V)|(apply sA ();clear V;intro bk w V)|fail)
 rw [hi] at V L ⊢;simp only [Ee] at V ⊢;obtain ⟨k,rfl⟩:∃ k:Nat,a=(k:Int):=⟨a.toNat,by omega⟩
 repeat' (first|go_skip|apply sG ()|(apply O ();go_step)|(apply kc ();refine sc (rp _ _ V) ?_;clear V;rintro v w ⟨rfl,V⟩)|apply sX ()|fail)
 refine CG (a:=0) (b:=s.stack.length) X hvs Y Y (.inl ⟨rfl,rfl⟩) (.inr ⟨.i64,by simp [Ai,AV]⟩) (.inl rfl) (by omega) (by omega) ?_;intro vz hvz;rw [List.drop_zero,Nat.sub_zero,List.take_length] at hvz;obtain ⟨ay,ny,cy,rfl⟩:=Ae hvz;apply nW ();have hzin:=gd.stack;have hw:=gd.vars _ (List.getElem_mem (show k < s.vars.length by omega));have hw0:=hw.1;repeat' (first|(apply O ();go_step)|apply sX ()|(apply sN ();intro hI)|(apply sI ();intro v L)|(apply sS ();clear V;intro w V)|fail)
 apply jG ()
end
section
variable {S:Ad} {M:List J} {vi vg:Value} {c:B9} {s:VS} {vv vs vp vn:Value}
set_option maxRecDepth 60000 in
theorem XV (w:World) (V:St S M w) (hvi:RSl S vi c.1) (hvm:c.1.length≤1048576) (hvv:RSl S vv s.vars) (hvs:RSl S vs s.stack) (hvp:RSl S vp s.pts) (hvn:RSl S vn s.notes) (h3:s.steps < 3000) (hp0:0≤s.pc) (hp1:s.pc < c.1.length) (gd:Br c s) {a b:Int} {u:Unit}
  (hi:c.1[s.pc.toNat]'(by omega)=(12,a,b,u)) {gl:List Int} (hgl:RSl S vg gl) (hgm:gl.length≤1048576) (hn:1≤s.stack.length) (hb0:0≤b) (hb2:b < s.pts.length) (hb1:b < c.2.2.1) (hpn:s.pts.length≤8) (h0:Bw s=0) (hz:gl.contains (s.br:Int)=true) :
  Ac prog 72 [Bs vi c,BU s vv vs vp vn 0,vg] w fun v w'=>Da S M { BO s with stack:=s.stack.take (s.stack.length - 1),br:=s.br+1,pts:=C6 s.pts b (GH (s.pts[b.toNat]'(by omega)) 1) } v w':=by
 unfold Ac;obtain ⟨ai,ni,ci,rfl⟩:=Ae hvi;obtain ⟨av,nv,cv,rfl⟩:=Ae hvv;obtain ⟨az,nz,cz,rfl⟩:=Ae hvs;obtain ⟨ap,np,cp,rfl⟩:=Ae hvp;obtain ⟨an,nn,cn,rfl⟩:=Ae hvn;have hsl:=gd.slen;have rp:∀ (M:List J) (w:World),St S M w→Ac prog 115 [.int .i64 12] w fun v w'=>v=.int .i64 1∧St S M w':=fun M w V=>BI w V 12 (by decide)
 go_enter func72,ntmps72;repeat' ((apply ZZ 8);first|apply sG ()|(with_reducible refine Sl.k_guard ?_;refine Sl.guard_cases rfl ?_ ?_<;>intro hg<;>first|exact gX|(simp only [hg,Bool.not_true,Bool.not_false])<;>(try replace hg:=gN hg)<;>apply nW ())|(apply O ();go_step)|apply sX ()|apply sP ()|(apply sI ();intro v L)|(apply sS ();clear V;intro w V)|(apply sB ();clear V;intro bx w V)|(apply sA ();clear V;intro bk w V)|fail)
 rw [hi] at V L ⊢;simp only [Ee] at V ⊢;obtain ⟨k,rfl⟩:∃ k:Nat,b=(k:Int):=⟨b.toNat,by omega⟩
 (try simp only [Int.toNat_natCast]);repeat' (first|apply sG ()|(with_reducible refine Sl.k_guard ?_;refine Sl.guard_cases rfl ?_ ?_<;>intro hg<;>first|exact gX|(simp only [hg,Bool.not_true,Bool.not_false])<;>(try replace hg:=gN hg)<;>apply nW ())|(apply O ();go_step)|(apply kc ();refine sc (rp _ _ V) ?_;clear V;rintro v w ⟨rfl,V⟩)|apply sX ()|(apply sN ();intro hI)|(apply sI ();intro v L)|fail)
 obtain ⟨zs,hzs⟩:∃ zs,s.stack.take (s.stack.length - 1)=zs:=⟨_,rfl⟩
 have hzl:zs.length=s.stack.length - 1:=by rw [← hzs,List.length_take];omega
 have hzin:∀ y∈zs,DA y:=hzs▸Dk gd.stack
 refine CG (a:=0) (b:=s.stack.length - 1) X hvs Y Y (.inl ⟨rfl,rfl⟩) (.inr ⟨.i64,by simp [Ai,AV];omega⟩) (.inl rfl) (by omega) (by omega) ?_;intro vz hvz;rw [List.drop_zero,Nat.sub_zero,hzs] at hvz;obtain ⟨ay,ny,cy,rfl⟩:=Ae hvz;apply nW ();have hw:=FO gd;simp only [Gd hn];have hpin:=gd.pts _ (List.getElem_mem (show k < s.pts.length by omega));have ri:=fun (M:List J) (w:World) (V:St S M w)=>(Pp w V vg gl hgl hgm (s.br:Int)).eq hz
 have hbr:=gd.br;have rb:=fun (M:List J) (w:World) (V:St S M w)=>F6 w V _ s.pts hvp (by omega) k (by omega) (GH (s.pts[k]'(by omega)) 1) (Ni (K1 hpin ⟨by decide,by decide⟩))
 repeat' ((apply ZZ 54);first|(apply O ();go_step)|(apply kc ();refine sc (ri _ _ V) ?_;clear V;rintro v w ⟨rfl,V⟩)|apply sX ()|(apply sS ();clear V;intro w V)|fail)
 all_goals (try (exfalso;simp_all;done))
 apply b5 ()
end
section
variable {S:Ad} {M:List J} {vi vg:Value} {c:B9} {s:VS} {vv vs vp vn:Value}
theorem iG {s} (h:2≤s.stack.length) (hs:s.stack.length≤400) (v):Cc (BJ (BJ s)) v=.ok { s with stack:=s.stack.take (s.stack.length - 2)++[v] }:=by
 unfold Cc;rw [if_pos (by simp;omega)];simp only [BJ,List.length_take,List.take_take];have e:min (min (s.stack.length - 1) s.stack.length - 1) (s.stack.length - 1)=s.stack.length - 2:=by omega
 rw [e]
theorem iH {s} (h:1≤s.stack.length) (hs:s.stack.length≤400) (v):Cc (BJ s) v=.ok { s with stack:=s.stack.take (s.stack.length - 1)++[v] }:=by
 unfold Cc;rw [if_pos (by simp;omega)]
theorem eM (w:World) (V:St S M w) (hvi:RSl S vi c.1) (hvm:c.1.length≤1048576) (hvv:RSl S vv s.vars) (hvs:RSl S vs s.stack) (hvp:RSl S vp s.pts) (hvn:RSl S vn s.notes) (gd:Br c s) {gl:List Int} (hgl:RSl S vg gl) (hgm:gl.length≤1048576) (h4:c.2.1≤400) (h8:c.2.2.1≤8) :
  Ac prog 72 [Bs vi c,BU s vv vs vp vn 0,vg] w fun v w'=>LS S M (Fp c gl s) v w':=by
 unfold Fp;by_cases h3:s.steps < 3000
 ·rw [if_pos h3];by_cases hpc:0≤s.pc∧s.pc < c.1.length
  ·rw [if_pos hpc];obtain ⟨hp0,hp1⟩:=hpc;have hlt:s.pc.toNat < c.1.length:=by omega
   have hi0:GV c s.pc=c.1[s.pc.toNat]:=by unfold GV;rw [List.getD_eq_getElem?_getD,List.getElem?_eq_getElem hlt];rfl
   rw [hi0];obtain ⟨⟨op,a,b,u⟩,hi⟩:∃ i,c.1[s.pc.toNat]'hlt=i:=⟨_,rfl⟩
   rw [hi];by_cases hop:1≤op∧op < 18
   ·rw [if_pos hop];have hvl:=gd.vlen;have hpl:=gd.plen;have hsl:=gd.slen;have hc:op=1∨op=2∨op=3∨op=4∨op=5∨op=6∨op=7∨op=8∨op=9∨op=10∨op=11∨op=12∨op=13∨op=14∨op=15∨op=16∨op=17:=by omega
    rcases hc with rfl|rfl|rfl|rfl|rfl|rfl|rfl|rfl|rfl|rfl|rfl|rfl|rfl|rfl|rfl|rfl|rfl
    ·rw [Sz rfl];unfold Cc;by_cases hl:s.stack.length < 400
     ·rw [if_pos hl];exact eP w V hvi hvm hvv hvs hvp hvn h3 hp0 hp1 gd hi hl
     ·rw [if_neg hl];exact Tj w V hvi hvm hvv hvs hvp hvn h3 hp0 hp1 gd hi hl
    ·rw [Sy rfl];by_cases hv:FW (BO s) a=true
     ·rw [if_pos hv];obtain ⟨ha0,ha1⟩:=of_decide_eq_true hv;have ha1:a < s.vars.length:=ha1;have e:=LJ (l:=s.vars) (i:=a.toNat) (by omega);show Ac _ _ _ _ fun v w'=>LS S M (Cc (BO s) (s.vars.getD a.toNat 0)) v w'
      rw [e];unfold Cc;by_cases hl:s.stack.length < 400
      ·rw [if_pos hl];exact eO w V hvi hvm hvv hvs hvp hvn h3 hp0 hp1 gd hi ha0 ha1 hl
      ·rw [if_neg hl];exact Ti w V hvi hvm hvv hvs hvp hvn h3 hp0 hp1 gd hi ha0 ha1 hl
     ·rw [if_neg hv];exact Vc w V hvi hvm hvv hvs hvp hvn h3 gd hp0 hp1 hi (Nat.zero_le _) (fun h=>hv (decide_eq_true h))
    ·rw [Sx rfl];by_cases hn:s.stack.length=0
     ·rw [if_pos hn];exact IA w V hvi hvm hvv hvs hvp hvn h3 gd hp0 hp1 hi hop (by have e:Ih 3=1:=rfl;rw [e];omega)
     ·rw [if_neg hn];by_cases hv:FW (BO s) a=true
      ·rw [if_pos hv];obtain ⟨ha0,ha1⟩:=of_decide_eq_true hv;have ha1:a < s.vars.length:=ha1;exact eN w V hvi hvm hvv hvs hvp hvn h3 hp0 hp1 gd hi ha0 ha1 (by omega) (by omega)
      ·rw [if_neg hv];exact Vb w V hvi hvm hvv hvs hvp hvn h3 gd hp0 hp1 hi (by omega) (fun h=>hv (decide_eq_true h))
    iterate 7
     ·rw [Sw (by simp) (by simp) (by simp) (by simp)];by_cases hn:s.stack.length < 2
      ·rw [if_pos hn];exact IA w V hvi hvm hvv hvs hvp hvn h3 gd hp0 hp1 hi hop (by unfold Ih;simp;omega)
      ·rw [if_neg hn,iG (s:=BO s) (by show 2≤s.stack.length;omega) hsl];exact XR w V hvi hvm hvv hvs hvp hvn h3 hp0 hp1 gd hi (by omega) (by omega) (by omega)
    ·rw [QN rfl];by_cases hn:s.stack.length=0
     ·rw [if_pos hn];exact IA w V hvi hvm hvv hvs hvp hvn h3 gd hp0 hp1 hi hop (by have e:Ih 11=1:=rfl;rw [e];omega)
     ·rw [if_neg hn,iH (s:=BO s) (by show 1≤s.stack.length;omega) hsl,← jo];exact aW w V hvi hvm hvv hvs hvp hvn h3 hp0 hp1 gd hi (by omega)
    ·rw [QM rfl];unfold Gq;by_cases hn:s.stack.length=0
     ·rw [if_pos hn];exact IA w V hvi hvm hvv hvs hvp hvn h3 gd hp0 hp1 hi hop (by have e:Ih 12=1:=rfl;rw [e];omega)
     ·rw [if_neg hn];by_cases hb:0≤b∧b < c.2.2.1
      ·rw [if_pos hb];obtain ⟨hb0,hb1⟩:=hb;have hk:b.toNat < s.pts.length:=by omega
       have e:=LJ hk;show Ac _ _ _ _ fun v w'=>LS S M (if (decide (Bw s≠0) ^^ gl.contains (s.br:Int))=true then .ok { BO s with stack:=s.stack.take (s.stack.length - 1),br:=s.br+1,pts:=C6 s.pts b (GH (s.pts.getD b.toNat 0) 1) } else .ok { BO s with stack:=s.stack.take (s.stack.length - 1),br:=s.br+1,pts:=C6 s.pts b (GH (s.pts.getD b.toNat 0) 2),pc:=a }) v w'
       rw [e];by_cases h0:Bw s=0
       ·have ed:decide (Bw s≠0)=false:=decide_eq_false (fun k=>k h0);rw [ed]
        cases hz:gl.contains (s.br:Int)
        ·rw [if_neg (by decide)];exact XW w V hvi hvm hvv hvs hvp hvn h3 hp0 hp1 gd hi hgl hgm (by omega) hb0 (by omega) hb1 (by omega) h0 hz
        ·rw [if_pos (by decide)];exact XV w V hvi hvm hvv hvs hvp hvn h3 hp0 hp1 gd hi hgl hgm (by omega) hb0 (by omega) hb1 (by omega) h0 hz
       ·have ed:decide (Bw s≠0)=true:=decide_eq_true h0;rw [ed]
        cases hz:gl.contains (s.br:Int)
        ·rw [if_pos (by decide)];exact XY w V hvi hvm hvv hvs hvp hvn h3 hp0 hp1 gd hi hgl hgm (by omega) hb0 (by omega) hb1 (by omega) h0 hz
        ·rw [if_neg (by decide)];exact XX w V hvi hvm hvv hvs hvp hvn h3 hp0 hp1 gd hi hgl hgm (by omega) hb0 (by omega) hb1 (by omega) h0 hz
      ·rw [if_neg hb];exact Tl w V hvi hvm hvv hvs hvp hvn h3 gd hp0 hp1 hi (by omega) hb
    ·rw [QL rfl];exact aV w V hvi hvm hvv hvs hvp hvn h3 hp0 hp1 gd hi
    ·rw [QK rfl];by_cases hn:s.stack.length=0
     ·rw [if_pos hn];exact IA w V hvi hvm hvv hvs hvp hvn h3 gd hp0 hp1 hi hop (by have e:Ih 14=1:=rfl;rw [e];omega)
     ·rw [if_neg hn];exact aU w V hvi hvm hvv hvs hvp hvn h3 hp0 hp1 gd hi (by omega) (by have:=gd.nlen;have:=gd.steps;omega)
    ·rw [QJ rfl];exact aT w V hvi hvm hvv hvs hvp hvn h3 hp0 hp1 gd hi
    ·rw [QI rfl];exact aS w V hvi hvm hvv hvs hvp hvn h3 hp0 hp1 gd hi
    ·rw [QH (by show (16:Int) < 17;decide)];by_cases hv:FW (BO s) a=true
     ·rw [if_pos hv];obtain ⟨ha0,ha1⟩:=of_decide_eq_true hv;have ha1:a < s.vars.length:=ha1;have hk:a.toNat < s.vars.length:=by omega
      have e:=LJ hk;show Ac _ _ _ _ fun v w'=>Da S M { BO s with vars:=C6 s.vars a (FJ (s.vars.getD a.toNat 0)),pc:=if 0 < FJ (s.vars.getD a.toNat 0) then b else s.pc+1 } v w'
      rw [e];have hin:=gd.vars _ (List.getElem_mem hk);unfold DA at hin;by_cases h1:1 < s.vars[a.toNat]
      ·have el:FJ s.vars[a.toNat]=s.vars[a.toNat] - 1:=by unfold FJ;omega
       rw [el,if_pos (by omega)];exact XU w V hvi hvm hvv hvs hvp hvn h3 hp0 hp1 gd hi ha0 ha1 (by omega) h1
      ·have el:FJ s.vars[a.toNat]=0:=by unfold FJ;omega
       rw [el,if_neg (by omega)];by_cases h0:s.vars[a.toNat]=0
       ·exact XS w V hvi hvm hvv hvs hvp hvn h3 hp0 hp1 gd hi ha0 ha1 (by omega) h0
       ·exact XT w V hvi hvm hvv hvs hvp hvn h3 hp0 hp1 gd hi ha0 ha1 (by omega) (by omega)
     ·rw [if_neg hv];exact Th w V hvi hvm hvv hvs hvp hvn h3 gd hp0 hp1 hi (Nat.zero_le _) (fun h=>hv (decide_eq_true h))
   ·rw [if_neg hop];exact Vd w V hvi hvm hvv hvs hvp hvn h3 gd hp0 hp1 hi hop
  ·rw [if_neg hpc];by_cases hp0:s.pc < 0
   ·exact Ve w V hvi hvm hvv hvs hvp hvn h3 gd hp0
   ·exact Vf w V hvi hvm hvv hvs hvp hvn h3 gd (by omega) (by omega)
 ·rw [if_neg h3];exact aR w V hvi hvv hvs hvp hvn h3
end
end Go.Proofs.YtmmbidoldegemaaGreatDoor
