/- Part 37 of a proof; no conditions. -/
import Derived.Test.YtmmbidoldegemaaGreatDoorZ31
set_option linter.all false
set_option maxRecDepth 8000
set_option maxHeartbeats 8000000
namespace Go.Proofs.YtmmbidoldegemaaGreatDoor
open Go.RowKit Go.Sl Go.Proofs.Tryz
abbrev PR:TypeId:=148
abbrev QV:TypeId:=92
abbrev Zi:TypeId:=3
def SR:Prop:=∀ {S:Ad} {M:List J} {vi vg:Value} {c:B9} {s:VS} {vv vs vp vn:Value} (w:World) (_:St S M w) (_:RSl S vi c.1) (_:c.1.length≤1048576) (_:RSl S vv s.vars) (_:RSl S vs s.stack) (_:RSl S vp s.pts) (_:RSl S vn s.notes) (_:Br c s) {gl:List Int} (_:RSl S vg gl) (_:gl.length≤1048576) (_:c.2.1≤400) (_:c.2.2.1≤8),
  Ac prog 72 [Bs vi c,BU s vv vs vp vn 0,vg] w fun v w'=>LS S M (Fp c gl s) v w'
theorem KI {c inputs gl r} (hr:H3 c inputs gl=r) (h:Em c inputs=false):r=(P8,1):=by
 rw [← hr];unfold H3;rw [h];rfl
theorem JX {c inputs} (h:¬ (0≤c.2.2.1∧c.2.2.1≤8∧(inputs.length:Int)≤c.2.1∧c.2.1≤400∧∀ x∈inputs,0≤x∧x < 65536)):Em c inputs=false:=by
 cases e:Em c inputs with
 | false=>rfl
 | true =>
  unfold Em at e;simp only [Bool.and_eq_true,decide_eq_true_eq,List.all_eq_true] at e;obtain ⟨⟨⟨⟨h1,h2⟩,h3⟩,h4⟩,h5⟩:=e;exact (h ⟨h1,h2,h3,h4,h5⟩).elim
theorem Xu {c inputs} (h:0≤c.2.2.1∧c.2.2.1≤8∧(inputs.length:Int)≤c.2.1∧c.2.1≤400∧∀ x∈inputs,0≤x∧x < 65536):Em c inputs=true:=by
 unfold Em;simp only [Bool.and_eq_true,decide_eq_true_eq,List.all_eq_true];exact ⟨⟨⟨⟨h.1,h.2.1⟩,h.2.2.1⟩,h.2.2.2.1⟩,h.2.2.2.2⟩
theorem ZP (xs:List Int) (k h):cF Ba (xs.take k)++[Value.int .i64 xs[k]]=cF Ba (xs.take (k+1)):=by
 rw [List.take_succ_eq_append_getElem h,IV];rfl
def lg:VR→MO×Nat
 | .ok s=>(P5 s,0)
 | .err e=>(P8,e)
theorem eC {c inputs gl r} (hr:H3 c inputs gl=r) (h:Em c inputs=true):lg (F7 c gl 3001 (C3 c inputs))=r:=by
 rw [← hr];unfold H3;rw [if_pos h]
 cases F7 c gl 3001 (C3 c inputs)<;>rfl
theorem dX (xs x):cF Ba xs++[Value.int .i64 x]=cF Ba (xs++[x]):=by rw [IV];rfl
set_option maxRecDepth 60000 in
theorem eW (hS:SR) {S M} (w) (V:St S M w) (vi c) (hvi:RSl S vi c.1) (hvm:c.1.length≤1048576) (vs inputs) (hin:RSl S vs inputs) (him:inputs.length≤1048576) (vg gl) (hgl:RSl S vg gl) (hgm:gl.length≤1048576) {r} (hr:H3 c inputs gl=r):
  Ac prog 38 [Bs vi c,vs,vg] w fun v w'=>ZV S M r v w':=by
 unfold Ac;have hI64:=PU hin;obtain ⟨ai,ni,ci,rfl⟩:=Ae hvi;obtain ⟨aj,nj,cj,rfl⟩:=Ae hin;obtain ⟨ag,ng,cg,rfl⟩:=Ae hgl;by_cases h1:c.2.2.1 < 0
 ·obtain rfl:=KI hr (JX fun h=>by omega);go_enter func38,ntmps38;repeat' (first|go_skip|(apply O ();go_step)|apply sX ()|(apply sS ();clear V;intro w V)|(apply sB ();clear V;intro bx w V)|(apply sA ();clear V;intro bk w V)|fail)
  apply aq ()
 ·by_cases h2:c.2.2.1 > 8
  ·obtain rfl:=KI hr (JX fun h=>by omega);go_enter func38,ntmps38;repeat' (first|go_skip|apply sG ()|(apply O ();go_step)|apply sX ()|(apply sS ();clear V;intro w V)|(apply sB ();clear V;intro bx w V)|(apply sA ();clear V;intro bk w V)|fail)
   apply aq ()
  ·by_cases h3:c.2.1 < (inputs.length:Int)
   ·obtain rfl:=KI hr (JX fun h=>by omega);go_enter func38,ntmps38;repeat' (first|go_skip|apply sG ()|(apply O ();go_step)|apply sX ()|(apply sS ();clear V;intro w V)|(apply sB ();clear V;intro bx w V)|(apply sA ();clear V;intro bk w V)|fail)
    apply aq ()
   ·by_cases h4:c.2.1 > 400
    ·obtain rfl:=KI hr (JX fun h=>by omega);go_enter func38,ntmps38;repeat' (first|apply sG ()|(apply O ();go_step)|apply sX ()|(apply sS ();clear V;intro w V)|(apply sB ();clear V;intro bx w V)|(apply sA ();clear V;intro bk w V)|fail)
     apply aq ()
    ·obtain ⟨ins,nv,np,u⟩:=c;obtain ⟨nv,rfl⟩:∃ n:Nat,nv=(n:Int):=⟨nv.toNat,by simp only at h3;omega⟩
     obtain ⟨np,rfl⟩:∃ n:Nat,np=(n:Int):=⟨np.toNat,by simp only at h1;omega⟩
     obtain ⟨⟩:=u;simp only at h1 h2 h3 h4 hvi hvm;go_enter func38,ntmps38;repeat' ((apply ZZ 1);first|(apply O ();go_step)|(apply sB ();clear V;intro bx w V)|(apply sA ();clear V;intro bk w V)|fail)
     obtain ⟨bo,rfl⟩:∃ b,b=bk:=⟨_,rfl⟩
     repeat' (first|apply sG ()|(apply O ();go_step)|apply sX ()|fail)
     refine JI (n:=np) V Y Y X X (by omega) (by omega) ?_;clear V;intro v33 w V;apply nW ();obtain ⟨a33,n33,c33,rfl⟩:=aY V;have e2:(List.replicate np [Value.int IntKind.i64 0]).flatten=cF Ba (List.replicate np 0):=Go.Sl.KT Ba 0 np;rw [e2] at V;have x1:=GU (List.replicate np (0:Int)) (fun x hx=>by rw [(List.mem_replicate.1 hx).2];unfold Au;omega) V rfl (by simp);clear V e2;obtain ⟨S1,hS1,V,hvp⟩:=x1;replace hvi:=hvi.mono hS1;replace hin:=hin.mono hS1;replace hgl:=hgl.mono hS1;have hk1:Em (ins,(nv:Int),(np:Int),()) inputs=false→r=(P8,1):=KI hr;have hk2:=hr;clear hr;repeat' (first|(apply O ();go_step)|(apply sS ();clear V;intro w V)|(apply sA ();clear V;intro bk w V)|fail)
     have V:=V.nil Zi 1
     go_loopw [9] (fun v wr=>∃ (k:Nat) (u:Value),k≤inputs.length∧v=.int .i64 k∧u.oneCell'=true∧(∀ j (h:j < inputs.length),j < k→0≤inputs[j]∧inputs[j] < 65536)∧St S1 (.sl u Zi 1 k (cF Ba (inputs.take k))::.box bk [.int .i64 0,u,.slice none 0 0,.slice a33 n33 c33,.slice none 0 0,.int .i64 0,.int .i64 0,.int .i64 0,.bool false,.int .i64 0] PR::.box bo In P6::.box bx [.slice ai ni ci,.int .i64 (nv:Int),.int .i64 (np:Int)] QV::M) wr) (fun v _=>inputs.length - (intOf v).toNat)
     case atStart=>exact ⟨0,_,Nat.zero_le _,rfl,rfl,fun j _ h=>by omega,V⟩
     case round =>
      clear V;obtain ⟨k,u,hk,rfl,hu,hpre,V⟩:=hrel;by_cases hlt:k < inputs.length
      ·by_cases hx1:inputs[k] < 0
       ·obtain rfl:=hk1 (JX fun h=>by have:=h.2.2.2.2 _ (List.getElem_mem hlt);omega);repeat' (first|apply sG ()|(apply O ();go_step)|apply sX ()|(apply sN ();intro hI)|(apply sI ();intro v L)|(apply sS ();clear V;intro w V)|fail)
        apply jU ()
       ·by_cases hx2:inputs[k] > 65535
        ·obtain rfl:=hk1 (JX fun h=>by have:=h.2.2.2.2 _ (List.getElem_mem hlt);omega);repeat' (first|apply sG ()|(apply O ();go_step)|apply sX ()|(apply sN ();intro hI)|(apply sI ();intro v L)|(apply sS ();clear V;intro w V)|fail)
         apply jU ()
        ·repeat' ((apply ZZ 9);first|apply sG ()|(apply O ();go_step)|apply sX ()|(apply sN ();intro hI)|(apply sI ();intro v L)|fail)
         refine AD V kr ?_;clear V;intro ops;apply nW ();refine td 0 rfl ?_;refine td 1 rfl ?_;refine td 2 rfl ?_;refine td 3 rfl ?_;refine tx 4 rfl (Aq X hin rfl Y Y Af Af) ?_;rintro v4 hp4;replace hp4:=iN hp4;refine tx 5 rfl (Am X hp4 Y) ?_;rintro v5 ⟨rfl,h5⟩;refine AP 6 rfl kr ?_;intro w V K G;refine Ay (vs:=[.int .i64 inputs[k]]) V Y Y rfl rfl (by simp [Value.cells]) rfl (by omega) (by omega) ?_;clear V;intro x6 w V;apply nW ();(try replace V:=nH V);refine Bg G V (Ad.Le.refl _) (Suf.cons (Suf.refl _)) ?_;clear V G K;(try clear w);apply nW ();refine AP 7 rfl kr ?_;intro w V K G;refine AF (j:=0) V X X SlIn.h rfl Y Y Y ((by simp [Value.oneCell'])) (by omega) (by omega) (by decide) ?_;clear V;intro x7 w V;apply nW ();(try replace V:=nH V);replace V:=V.drop;have hone7:=Go.Sl.AY V;refine Bb G V ?_;clear V G K;(try clear w);apply nW ();refine td 8 rfl ?_;refine AP 9 rfl kr ?_;intro w V K G;(refine Go.Sl.G2 V rfl N.h X Ak Y (by simp<;>omega) ?_);clear V;intro w V;apply nW ();(try replace V:=nH V);refine Bb G V ?_;clear V G K;(try clear w);apply nW ();refine AJ kr ?_;clear ops;intro w V
         all_goals
          rw [ZP _ _ hlt] at V;repeat' (first|(apply O ();go_step)|fail)
          go_roundw
          case rel=>exact ⟨k+1,x7,by omega,by go_num,hone7,fun j hj h=>(by rcases Nat.lt_succ_iff_lt_or_eq.1 h with h|rfl;exact hpre j hj h;omega),V⟩
          case measure=>simp [intOf];omega
      ·obtain rfl:k=inputs.length:=by omega
       rw [List.take_length] at V;have hv:Em (ins,(nv:Int),(np:Int),()) inputs=true:=Xu ⟨by show 0≤(np:Int);omega,by show (np:Int)≤8;omega,by show (inputs.length:Int)≤nv;omega,by show (nv:Int)≤400;omega,fun x hx=>by obtain ⟨j,hj,rfl⟩:=List.mem_iff_getElem.1 hx;exact hpre j hj hj⟩;clear hpre hk1;have gd0:=MV hv;have hk3:=eC hk2 hv;clear hv;obtain ⟨r0,hr0⟩:∃ r0,F7 (ins,(nv:Int),(np:Int),()) gl 3001 (C3 (ins,(nv:Int),(np:Int),()) inputs)=r0:=⟨_,rfl⟩
       rw [hr0] at hk3;clear hk2;repeat' (first|(apply O ();go_step)|apply sX ()|fail)
       go_loopg [] (nv - inputs.length) (fun g wr=>∃ (u:Value) (xs:List Int),g+xs.length=nv∧xs++List.replicate g 0=(C3 (ins,(nv:Int),(np:Int),()) inputs).vars∧u.oneCell'=true∧St S1 (.sl u Zi 1 xs.length (cF Ba xs)::.box bk [.int .i64 0,u,.slice none 0 0,.slice a33 n33 c33,.slice none 0 0,.int .i64 0,.int .i64 0,.int .i64 0,.bool false,.int .i64 0] PR::.box bo In P6::.box bx [.slice ai ni ci,.int .i64 (nv:Int),.int .i64 (np:Int)] QV::M) wr)
       case atStart=>exact ⟨u,inputs,by omega,rfl,hu,V⟩
       case round =>
        clear V u hu;obtain ⟨u,xs,hg,hvx,hu,V⟩:=hrel;by_cases hlt2:xs.length < nv
        ·obtain ⟨j,rfl⟩:∃ j,gk=j+1:=⟨gk - 1,by omega⟩
         repeat' (first|(apply O ();go_step)|apply sX ()|fail)
         refine Ay (vs:=[.int .i64 0]) V Y Y rfl rfl (by simp [Value.cells]) rfl (by omega) (by omega) ?_;clear V;intro u w V;refine nX ?_;refine AF (j:=0) V X X SlIn.h rfl Y Y Y (by simp [Value.cells,Value.oneCell']) (by omega) (by omega) (by decide) ?_;clear V;intro v' w V;refine nX ?_;(try replace V:=nH V);replace V:=V.drop;rw [dX] at V;have hone:=Go.Sl.AY V;repeat' (first|(apply tS ();refine Go.Sl.G2 V rfl N.h X Ak Y (by simp) ?_;clear V;intro w V<;>apply nW ()<;>(try replace V:=nH V))|(apply O ();go_step)|apply sX ()|fail)
         go_roundg j
         case measure=>omega
         case rel=>exact ⟨_,xs++[0],by simp only [List.length_append,List.length_singleton];omega,by rw [← hvx,List.append_assoc,List.singleton_append,← List.replicate_succ],hone,by rw [List.length_append,List.length_singleton];exact V⟩
        ·obtain rfl:gk=0:=by omega
         rw [List.replicate_zero,List.append_nil] at hvx;have x2:=GU xs (fun x hx=>IN (gd0.vars x (hvx▸hx))) V rfl rfl;clear V;obtain ⟨S2,hS2,V,hvv⟩:=x2;replace hvi:=hvi.mono hS2;replace hin:=hin.mono hS2;replace hgl:=hgl.mono hS2;replace hvp:RSl S2 _ (C3 (ins,(nv:Int),(np:Int),()) inputs).pts:=hvp.mono hS2;have hvs:RSl S2 (.slice none 0 0) (C3 (ins,(nv:Int),(np:Int),()) inputs).stack:=Ij;have hvn:RSl S2 (.slice none 0 0) (C3 (ins,(nv:Int),(np:Int),()) inputs).notes:=Ij;have hS3:=hS1.trans hS2;clear hS1 hS2 hu hg;have HVX:=Lib.hid hvx;clear hvx;repeat' (first|(apply O ();go_step)|apply sX ()|fail)
         clear hlt2;rw [HVX.out] at hvv;clear HVX;have hs9:=hr0;clear hr0
         go_loopg [] 3001 (fun g wr=>(∃ (S':Ad) (s:VS) (vv vs vp vn:Value),S.Le S'∧Br (ins,(nv:Int),(np:Int),()) s∧3001≤g+s.steps∧F7 (ins,(nv:Int),(np:Int),()) gl g s=r0∧RSl S' (.slice ai ni ci) ins∧RSl S' (.slice ag ng cg) gl∧RSl S' vv s.vars∧RSl S' vs s.stack∧RSl S' vp s.pts∧RSl S' vn s.notes∧St S' (.box bk (MW s vv vs vp vn 0) PR::.box bo In P6::.box bx [.slice ai ni ci,.int .i64 (nv:Int),.int .i64 (np:Int)] QV::M) wr)∨(∃ (S':Ad) (s:VS) (vv vs vp vn:Value) (e:Nat),S.Le S'∧(e=2∨e=20∨e=21)∧r0=.err e∧vv.oneCell'=true∧vs.oneCell'=true∧vp.oneCell'=true∧vn.oneCell'=true∧St S' (.box bk (MW s vv vs vp vn (e:Int)) PR::.box bo In P6::.box bx [.slice ai ni ci,.int .i64 (nv:Int),.int .i64 (np:Int)] QV::M) wr))
         case atStart=>exact .inl ⟨S2,_,_,_,_,_,hS3,gd0,Nat.le_add_right _ _,hs9,hvi,hgl,hvv,hvs,hvp,hvn,V⟩
         case round =>
          clear V hvi hin hgl hvp hvv hvs hvn gd0 hs9 hS3;rcases hrel with ⟨S',s,vv,vs,vp,vn,hS1,gd,hk,hrun,hvi,hgl,hvv,hvs,hvp,hvn,V⟩|⟨S',s,vv,vs,vp,vn,e,hS1,he,hre,k1,k2,k3,k4,V⟩
          ·have hgs:=gd.steps;obtain ⟨j,rfl⟩:∃ j,gk=j+1:=⟨gk - 1,by omega⟩
           rw [F7] at hrun;have k1:=hvv.oneCell;have k2:=hvs.oneCell;have k3:=hvp.oneCell;have k4:=hvn.oneCell
           cases hd:s.done with
           | true =>
            rw [hd,if_pos rfl] at hrun;subst hrun;rw [MW,hd] at V;repeat' (first|apply sG ()|(apply O ();go_step)|apply sX ()|fail)
            refine Ax (cs:=fF vp vn s.fin (s.steps:Int)) V rfl _ N.h Y X rfl rfl (by show (vp.oneCell' && (vn.oneCell' && (true && (true && true))))=true;rw [k3,k4];rfl) (by simp) ?_;clear V;intro w V;(try replace V:=nH V);repeat' (first|(apply O ();go_step)|fail)
            refine Bc rfl (AZ V rfl _ N.h Y rfl rfl) (A8 rfl) ?_;(try simp only [AV,List.drop_zero,List.drop_succ_cons,List.take_succ_cons,List.take_zero,AB,Ap]);obtain ⟨ap,np',cp,rfl⟩:=Ae hvp;obtain ⟨an,nn,cn,rfl⟩:=Ae hvn;subst hk3;exact ⟨_,rfl,S',_,_,_,_,_,_,hS1,rfl,hvp,hvn,V.drop.drop.drop⟩
           | false =>
            rw [hd,if_neg (by simp)] at hrun;have hsp:=hS (M:=.box bk (MW s vv vs vp vn 0) PR::.box bo In P6::.box bx [.slice ai ni ci,.int .i64 (nv:Int),.int .i64 (np:Int)] QV::M) wr V hvi hvm hvv hvs hvp hvn gd hgl hgm (by show (nv:Int)≤400;omega) (by show (np:Int)≤8;omega);have hsg:=OI (gl:=gl) gd hd;rw [MW,hd] at V;rw [MW,BU,hd] at hsp
            cases hsv:Fp (ins,(nv:Int),(np:Int),()) gl s with
            | ok s' =>
             rw [hsv] at hsp hsg hrun;obtain ⟨hg1',hg2'⟩:=hsg;have hsp':Ac _ _ _ _ (fun v w'=>Da S' _ s' v w'):=hsp;clear hsp hsv;repeat' (first|apply sG ()|(apply O ();go_step)|(apply kc ();refine sc (hsp') ?_;clear V;rintro v w ⟨S2,vv2,vs2,vp2,vn2,hS2,rfl,hvv2,hvs2,hvp2,hvn2,V⟩)|apply sX ()|fail)
             have q1:=hvv2.oneCell;have q2:=hvs2.oneCell;have q3:=hvp2.oneCell;have q4:=hvn2.oneCell;refine Ax (cs:=MW s' vv2 vs2 vp2 vn2 0) V rfl _ N.h Y X rfl rfl (by show (true && (vv2.oneCell' && (vs2.oneCell' && (vp2.oneCell' && (vn2.oneCell' && (true && (true && (true && (true && (true && true))))))))))=true;rw [q1,q2,q3,q4];rfl) (by simp) ?_;clear V;intro w V;(try replace V:=nH V);repeat' (first|(apply O ();go_step)|fail)
             go_roundg j
             case measure=>omega
             case rel=>exact .inl ⟨S2,s',vv2,vs2,vp2,vn2,hS1.trans hS2,hg1',by omega,hrun,hvi.mono hS2,hgl.mono hS2,hvv2,hvs2,hvp2,hvn2,V⟩
            | err e =>
             rw [hsv] at hsp hsg hrun;have hsp':Ac _ _ _ _ (fun v w'=>D4 S' _ e v w'):=hsp;clear hsp hsv;repeat' (first|apply sG ()|(apply O ();go_step)|(apply kc ();refine sc (hsp') ?_;clear V;rintro v w ⟨S2,t,vv2,vs2,vp2,vn2,hS2,rfl,q1,q2,q3,q4,V⟩)|apply sX ()|fail)
             refine Ax (cs:=MW t vv2 vs2 vp2 vn2 (e:Int)) V rfl _ N.h Y X rfl rfl (by show (true && (vv2.oneCell' && (vs2.oneCell' && (vp2.oneCell' && (vn2.oneCell' && (true && (true && (true && (true && (true && true))))))))))=true;rw [q1,q2,q3,q4];rfl) (by simp) ?_;clear V;intro w V;(try replace V:=nH V);repeat' (first|(apply O ();go_step)|fail)
             go_roundg j
             case measure=>omega
             case rel=>exact .inr ⟨S2,t,vv2,vs2,vp2,vn2,e,hS1.trans hS2,hsg,hrun.symm,q1,q2,q3,q4,V⟩
          ·rw [MW] at V;subst hre;subst hk3;have hne:(e:Int)≠0:=by omega
           repeat' (first|apply sG ()|(with_reducible refine Sl.k_guard ?_;refine Sl.guard_cases rfl ?_ ?_<;>intro hg<;>(simp only [hg,Bool.not_true,Bool.not_false])<;>(try replace hg:=gN hg)<;>apply nW ())|(apply O ();go_step)|apply sX ()|fail)
           all_goals
            refine AD V kr ?_;clear V;intro ops;apply nW ();refine tq 0 rfl (Dc (cs:=In) Y Y kr) ?_;refine Lv 1 3 rfl rfl kr ?_ ?_;intro w V K G;refine Ag V (Et rfl Y) ?_;apply nW ();(try replace V:=nH V);refine Bg G V (Ad.Le.refl _) (Suf.refl _) ?_;clear V G K;(try clear w);apply nW ();refine Lv 2 3 rfl rfl kr ?_ ?_;intro w V K G;refine Ag V (AT rfl _ N.h Y rfl rfl) ?_;apply nW ();(try replace V:=nH V);refine Bg G V (Ad.Le.refl _) (Suf.refl _) ?_;clear V G K;(try clear w);apply nW ();refine AP 3 rfl kr ?_;intro w V K G;(refine Ax V rfl _ N.h Y X rfl A3 A2 (by simp<;>omega) ?_);clear V;intro w V;apply nW ();(try replace V:=nH V);refine Bb G V ?_;clear V G K;(try clear w);apply nW ();refine td 4 rfl ?_;refine AJ kr ?_;clear ops;intro w V;rotate_left;intro w V K G;(refine Ax V rfl _ N.h Y X rfl A3 A2 (by simp<;>omega) ?_);clear V;intro w V;apply nW ();(try replace V:=nH V);refine Bb G V ?_;clear V G K;(try clear w);apply nW ();refine AP 2 rfl kr ?_;intro w V K G;refine Ag V (AT rfl _ N.h Y rfl rfl) ?_;apply nW ();(try replace V:=nH V);refine Bg G V (Ad.Le.refl _) (Suf.refl _) ?_;clear V G K;(try clear w);apply nW ();refine td 4 rfl ?_;refine AJ kr ?_;clear ops;intro w V;rotate_left
            intro w V K G;(refine Ax V rfl _ N.h Y X rfl A3 A2 (by simp<;>omega) ?_);clear V;intro w V;apply nW ();(try replace V:=nH V);refine Bb G V ?_;clear V G K;(try clear w);apply nW ();refine AP 1 rfl kr ?_;intro w V K G;refine Ag V (Et rfl Y) ?_;apply nW ();(try replace V:=nH V);refine Bg G V (Ad.Le.refl _) (Suf.refl _) ?_;clear V G K;(try clear w);apply nW ();refine AP 2 rfl kr ?_;intro w V K G;refine Ag V (AT rfl _ N.h Y rfl rfl) ?_;apply nW ();(try replace V:=nH V);refine Bg G V (Ad.Le.refl _) (Suf.refl _) ?_;clear V G K;(try clear w);apply nW ();refine td 4 rfl ?_;refine AJ kr ?_;clear ops;intro w V;rotate_left
            all_goals
             repeat' (first|(apply O ();go_step)|fail)
             refine Bc rfl (AZ V rfl _ N.h Y rfl rfl) (A8 rfl) ?_;(try simp only [AV,List.drop_zero,List.drop_succ_cons,List.take_succ_cons,List.take_zero,AB,Ap]);exact ⟨_,rfl,S',_,_,_,_,_,_,hS1,rfl,Ij,Ij,V.drop.drop.drop⟩
end Go.Proofs.YtmmbidoldegemaaGreatDoor
