/- Part 41 of a proof; no conditions. -/
import Derived.Test.YtmmbidoldegemaaGreatDoorZ39
set_option linter.all false
set_option maxRecDepth 8000
set_option maxHeartbeats 8000000
namespace Go.Proofs.YtmmbidoldegemaaGreatDoor
open Go.RowKit Go.Sl Go.Proofs.Tryz
structure Fs (p:Pg):Prop where
 li:p.1.length≤100000
 ln:p.2.1.length≤100000
 lo:∀ x∈p.2.1,x.2.2.2.1.length≤100000
theorem Fe {S si sn p} (h:Cm S si sn p):Z.R S [.slice si.1 si.2.1 si.2.2,.slice sn.1 sn.2.1 sn.2.2,.int .i64 p.2.2.1,.int .i64 p.2.2.2.1] p :=
 AG (cs:=[_]) ⟨_,rfl,h.i⟩ (AG (cs:=[_]) ⟨_,rfl,h.n⟩ (AG (cs:=[_]) ⟨rfl,h.r⟩ (AG (cs:=[_]) ⟨rfl,h.q⟩ CM)))
theorem Fj {S cl p} (hb:Fs p) (h:Z.R S cl p):∃ si sn:Sv,cl=[.slice si.1 si.2.1 si.2.2,.slice sn.1 sn.2.1 sn.2.2,.int .i64 p.2.2.1,.int .i64 p.2.2.2.1]∧Cm S si sn p:=by
 obtain ⟨hl,h1,h2⟩:=h;obtain ⟨hl2,h3,h4⟩:=h2;obtain ⟨hl3,h5,h6⟩:=h4;obtain ⟨hl4,h7,h8⟩:=h6;obtain ⟨v1,e1,i1⟩:=h1;obtain ⟨v2,e2,i2⟩:=h3;obtain ⟨e3,i3⟩:=h5;obtain ⟨e4,i4⟩:=h7;obtain ⟨a,n,c,rfl⟩:=BQ i1;obtain ⟨a',n',c',rfl⟩:=BQ i2;refine ⟨(a,n,c),(a',n',c'),?_,i1,i2,i3,i4,hb.li,hb.ln,hb.lo⟩;apply ak ()
theorem UO {S M} (w) (V:St S M w) {p} (hb:Fs p) (cl) (hR:Z.R S cl p):
  Ac prog 104 [.agg cl.toArray] w fun v w'=>∃ so co,v=Ar so∧RL S co (C0 p)∧St S (.sl (Ar so) 9 1 (C0 p).length co::M) w':=by
 obtain ⟨si,sn,rfl,L⟩:=Fj hb hR;exact UP w V si sn p L
theorem Pd {S M} (w) (V:St S M w) {p} (hb:Fs p) (k) (hk:k≤p.2.1.length) (cl) (hR:Z.R S cl p):
  Ac prog 63 [.agg cl.toArray,.int .i64 (k:Int)] w fun v w'=>v=.int .i64 (D9 p k)∧St S M w':=by
 obtain ⟨si,sn,rfl,L⟩:=Fj hb hR;exact WN w V si sn p L k hk
abbrev Ls (S:Ad) (M:List J) (xs:List Fg) (v:Value) (w:World):Prop:=∃ S' so,S.Le S'∧v=Ar so∧RSl S' (Ar so) xs∧St S' M w
theorem oD {S M xs v w} (h:Db S M xs v w):Ls S M xs v w:=by
 obtain ⟨S',so,co,hS,rfl,hC,V⟩:=h;obtain ⟨S2,hS2,hst2,hx⟩:=St.freeze (α:=Fg) V hC rfl;exact ⟨S2,so,hS.trans hS2,rfl,hx,hst2⟩
theorem GA {S M} (w) (V:St S M w) (op a b) (h1:Au op) (h2:Au a) (h3:Au b):
  Ac prog 65 [.int .i64 op,.int .i64 a,.int .i64 b] w (Ls S M (i1 op a b)) :=
 (JR w V op a b h1 h2 h3).mono fun v w' h=>oD h
abbrev Lr (p:Pg) (f:Nat):Prop:=∀ {S:Ad} {M:List J} (w:World) (cl:List Value) (k:Nat) (pos:Int),St S M w→Z.R S cl p→k < p.2.1.length→k+1≤f→(0≤pos∧pos+4 * (Bp p.2.1 f k:Int)≤100000) →
  Ac prog 64 [.agg cl.toArray,.int .i64 (k:Int),.int .i64 pos] w (Db S M (AH p f k pos))
theorem DX {α:Type} [Z α] {S v cs} {x:List α} {xs} (h:RSl S v x) (t:RL S cs xs):RL S (v::cs) (x::xs):=RL.append (RL.one_mk (show Z.R S [v] x from ⟨v,rfl,h⟩)) t
theorem D5 {S a cs xs} (h:Au a) (t:RL S cs xs):RL S (.int .i64 a::cs) (a::xs):=RL.append (Cw h) t
theorem fg {S}:RL S [.int .i64 0,.int .i64 0,.int .i64 0,.int .i64 4,.int .i64 5,.int .i64 6,.int .i64 7,.int .i64 8,.int .i64 9,.int .i64 10,.int .i64 11] Kl :=
 D5 (Ah (by decide)) (D5 (Ah (by decide)) (D5 (Ah (by decide)) (D5 (Ah (by decide)) (D5 (Ah (by decide)) (D5 (Ah (by decide)) (D5 (Ah (by decide)) (D5 (Ah (by decide)) (D5 (Ah (by decide)) (D5 (Ah (by decide)) (D5 (Ah (by decide)) RL.nil))))))))))
theorem Ui {a} (h: -1000000≤a∧a≤1000000):Au a:=by unfold Au;omega
theorem Ii {n i} (hi:i < n.2.2.2.1.length):AU n i=n.2.2.2.1[i]:=by
 unfold AU;rw [List.getD_eq_getElem?_getD,List.getElem?_eq_getElem hi];rfl
theorem fP {p f k} (ih:Lr p f) (hw:Cl p) (hk:k < p.2.1.length) (hf:k+1≤f+1) (i) (hi:i < (p.2.1[k]).2.2.2.1.length) {S M} (w) (V:St S M w) (cl) (hR:Z.R S cl p) (pos) (hq:0≤pos∧pos+4 * (Bp p.2.1 f (p.2.1[k]).2.2.2.1[i]:Int)≤100000):
  Ac prog 64 [.agg cl.toArray,.int .i64 ((p.2.1[k]).2.2.2.1[i]),.int .i64 pos] w (Db S M (AH p f (AU (p.2.1[k]) i) pos)):=by
 obtain ⟨o,a,b,d⟩:=Ch hw hk hi;rw [d];rw [b] at hq ⊢;exact ih w cl o pos V hR (by omega) (by omega) hq
theorem Gl {p f k} (ih:Lr p f) (hw:Cl p) (hk:k < p.2.1.length) (hf:k+1≤f+1) (i) (hi:i < (p.2.1[k]).2.2.2.1.length) {S M} (w) (V:St S M w) (cl) (hR:Z.R S cl p) (pos) (hq:0≤pos∧pos+4 * (Bp p.2.1 f (p.2.1[k]).2.2.2.1[i]:Int)≤100000):
  Ac prog 64 [.agg cl.toArray,.int .i64 ((p.2.1[k]).2.2.2.1[i]),.int .i64 pos] w (Ls S M (AH p f (AU (p.2.1[k]) i) pos)) :=
 (fP ih hw hk hf i hi w V cl hR pos hq).mono fun v w' h=>oD h
theorem Ej {p f k} (hw:Cl p) (hk:k < p.2.1.length) (i) (hi:i < (p.2.1[k]).2.2.2.1.length) (pos):(AH p f (AU (p.2.1[k]) i) pos).length≤4 * Bp p.2.1 f (p.2.1[k]).2.2.2.1[i]:=by
 obtain ⟨o,a,b,d⟩:=Ch hw hk hi;rw [d,b];exact Mv hw f o pos (by omega)
section
variable {S:Ad} {M:List J} {w:World} {si sn:Sv} {p:Pg} {f k:Nat} {pos:Int}
theorem fR (V:St S M w) (L:Cm S si sn p) (hw:Cl p) (hk:k < p.2.1.length) (hf:k+1≤f+1) (hq:0≤pos∧pos+4 * (Bp p.2.1 (f+1) k:Int)≤100000) (hv:(p.2.1[k]).1=1) :
  Ac prog 64 [Bo si sn p,.int .i64 (k:Int),.int .i64 pos] w (Db S M (AH p (f+1) k pos)):=by
 unfold Ac;obtain ⟨R,hR⟩:∃ R,AH p (f+1) k pos=R:=⟨_,rfl⟩
 rw [hR];rw [AH,Be hk] at hR;simp only at hR;have hn:=L.n;have hln:=L.ln;have hli:=L.li;have hvl:=DI p;have hb:Fs p:=⟨L.li,L.ln,L.lo⟩
 have hpr:=Fe L;rw [if_pos hv] at hR;have e1:(p.2.1[k].1 == 1)=true:=by first|rw [hv];rfl|exact beq_iff_eq.2 (by omega)
 have HR:=Lib.hid hR;clear hR hv L;go_enter func64,ntmps64;repeat' ((apply ZZ 1);first|(apply O ();go_step)|(apply sB ();clear V;intro bx w V)|fail)
 refine wp_region_lit ?_;repeat' (first|(apply O ();go_step)|apply sX ()|(apply sD ();intro cl hcl)|(apply sI ();intro v L)|(apply sA ();clear V;intro bk w V)|fail)
 obtain ⟨so,rfl,ho,hI1,hI2,hI3⟩:=A5 hcl;rw [show Z.agg Nd=true from rfl];apply nW ();repeat' ((apply ZZ 2);first|(apply O ();go_step)|(apply sS ();clear V;intro w V)|fail)
 obtain ⟨S1,hS1,hst1,hpn⟩:=AC (α:=Nd) V hcl rfl;clear V;obtain ⟨S2,hS2,V,hpp⟩:=AC (α:=Pg) hst1 (Z.mono hS1 hpr) rfl;clear hst1 hcl hpr ho hn;replace hpn:=Pt.mono hS2 hpn;generalize Value.pointer (some ⟨bk,0,none⟩)=pN at *;generalize Value.pointer (some ⟨bx,0,none⟩)=pP at *;have hSS2:=hS1.trans hS2;clear hS1 hS2;have cO:=fun {S' M} w (V:St S' M w)=>JR w V 1 (p.2.1[k]).2.1 0 (Ah (by decide)) hI2 (Ah (by decide))
 apply gY ()
theorem dm (V:St S M w) (L:Cm S si sn p) (hw:Cl p) (hk:k < p.2.1.length) (hf:k+1≤f+1) (hq:0≤pos∧pos+4 * (Bp p.2.1 (f+1) k:Int)≤100000) (hv:(p.2.1[k]).1=15) :
  Ac prog 64 [Bo si sn p,.int .i64 (k:Int),.int .i64 pos] w (Db S M (AH p (f+1) k pos)):=by
 unfold Ac;obtain ⟨R,hR⟩:∃ R,AH p (f+1) k pos=R:=⟨_,rfl⟩
 rw [hR];rw [AH,Be hk] at hR;simp only at hR;have hn:=L.n;have hln:=L.ln;have hli:=L.li;have hvl:=DI p;have hb:Fs p:=⟨L.li,L.ln,L.lo⟩
 have hpr:=Fe L;rw [if_neg (by omega),if_neg (by omega),if_neg (by omega),if_neg (by omega),if_pos hv] at hR;have e1:(p.2.1[k].1 == 1)=false:=beq_eq_false_iff_ne.2 (by omega);have e2:(p.2.1[k].1 == 2)=false:=beq_eq_false_iff_ne.2 (by omega);have e12:(p.2.1[k].1 == 12)=false:=beq_eq_false_iff_ne.2 (by omega);have e13:(p.2.1[k].1 == 13)=false:=beq_eq_false_iff_ne.2 (by omega);have e15:(p.2.1[k].1 == 15)=true:=by first|rw [hv];rfl|exact beq_iff_eq.2 (by omega)
 have HR:=Lib.hid hR;clear hR hv L;go_enter func64,ntmps64;repeat' ((apply ZZ 1);first|(apply O ();go_step)|(apply sB ();clear V;intro bx w V)|fail)
 refine wp_region_lit ?_;repeat' (first|(apply O ();go_step)|apply sX ()|(apply sD ();intro cl hcl)|(apply sI ();intro v L)|(apply sA ();clear V;intro bk w V)|fail)
 obtain ⟨so,rfl,ho,hI1,hI2,hI3⟩:=A5 hcl;rw [show Z.agg Nd=true from rfl];apply nW ();repeat' ((apply ZZ 2);first|(apply O ();go_step)|(apply sS ();clear V;intro w V)|fail)
 obtain ⟨S1,hS1,hst1,hpn⟩:=AC (α:=Nd) V hcl rfl;clear V;obtain ⟨S2,hS2,V,hpp⟩:=AC (α:=Pg) hst1 (Z.mono hS1 hpr) rfl;clear hst1 hcl hpr ho hn;replace hpn:=Pt.mono hS2 hpn;generalize Value.pointer (some ⟨bk,0,none⟩)=pN at *;generalize Value.pointer (some ⟨bx,0,none⟩)=pP at *;have hSS2:=hS1.trans hS2;clear hS1 hS2;have cO:=fun {S' M} w (V:St S' M w)=>JR w V 15 (p.2.1[k]).2.1 0 (Ah (by decide)) hI2 (Ah (by decide))
 apply gY ()
theorem dl (V:St S M w) (L:Cm S si sn p) (hw:Cl p) (hk:k < p.2.1.length) (hf:k+1≤f+1) (hq:0≤pos∧pos+4 * (Bp p.2.1 (f+1) k:Int)≤100000) (hv:(p.2.1[k]).1=16) :
  Ac prog 64 [Bo si sn p,.int .i64 (k:Int),.int .i64 pos] w (Db S M (AH p (f+1) k pos)):=by
 unfold Ac;obtain ⟨R,hR⟩:∃ R,AH p (f+1) k pos=R:=⟨_,rfl⟩
 rw [hR];rw [AH,Be hk] at hR;simp only at hR;have hn:=L.n;have hln:=L.ln;have hli:=L.li;have hvl:=DI p;have hb:Fs p:=⟨L.li,L.ln,L.lo⟩
 have hpr:=Fe L;rw [if_neg (by omega),if_neg (by omega),if_neg (by omega),if_neg (by omega),if_neg (by omega),if_pos hv] at hR;have e1:(p.2.1[k].1 == 1)=false:=beq_eq_false_iff_ne.2 (by omega);have e2:(p.2.1[k].1 == 2)=false:=beq_eq_false_iff_ne.2 (by omega);have e12:(p.2.1[k].1 == 12)=false:=beq_eq_false_iff_ne.2 (by omega);have e13:(p.2.1[k].1 == 13)=false:=beq_eq_false_iff_ne.2 (by omega);have e15:(p.2.1[k].1 == 15)=false:=beq_eq_false_iff_ne.2 (by omega);have e16:(p.2.1[k].1 == 16)=true:=by first|rw [hv];rfl|exact beq_iff_eq.2 (by omega)
 have HR:=Lib.hid hR;clear hR hv L;go_enter func64,ntmps64;repeat' ((apply ZZ 1);first|(apply O ();go_step)|(apply sB ();clear V;intro bx w V)|fail)
 refine wp_region_lit ?_;repeat' (first|(apply O ();go_step)|apply sX ()|(apply sD ();intro cl hcl)|(apply sI ();intro v L)|(apply sA ();clear V;intro bk w V)|fail)
 obtain ⟨so,rfl,ho,hI1,hI2,hI3⟩:=A5 hcl;rw [show Z.agg Nd=true from rfl];apply nW ();repeat' ((apply ZZ 2);first|(apply O ();go_step)|(apply sS ();clear V;intro w V)|fail)
 obtain ⟨S1,hS1,hst1,hpn⟩:=AC (α:=Nd) V hcl rfl;clear V;obtain ⟨S2,hS2,V,hpp⟩:=AC (α:=Pg) hst1 (Z.mono hS1 hpr) rfl;clear hst1 hcl hpr ho hn;replace hpn:=Pt.mono hS2 hpn;generalize Value.pointer (some ⟨bk,0,none⟩)=pN at *;generalize Value.pointer (some ⟨bx,0,none⟩)=pP at *;have hSS2:=hS1.trans hS2;clear hS1 hS2;have cO:=fun {S' M} w (V:St S' M w)=>JR w V 16 0 0 (Ah (by decide)) (Ah (by decide)) (Ah (by decide))
 apply gY ()
theorem fQ (V:St S M w) (L:Cm S si sn p) (hw:Cl p) (hk:k < p.2.1.length) (hf:k+1≤f+1) (hq:0≤pos∧pos+4 * (Bp p.2.1 (f+1) k:Int)≤100000) (hv:(p.2.1[k]).1=2) :
  Ac prog 64 [Bo si sn p,.int .i64 (k:Int),.int .i64 pos] w (Db S M (AH p (f+1) k pos)):=by
 unfold Ac;obtain ⟨R,hR⟩:∃ R,AH p (f+1) k pos=R:=⟨_,rfl⟩
 rw [hR];rw [AH,Be hk] at hR;simp only at hR;have hn:=L.n;have hln:=L.ln;have hli:=L.li;have hvl:=DI p;have hb:Fs p:=⟨L.li,L.ln,L.lo⟩
 have hpr:=Fe L;rw [if_neg (by omega),if_pos hv] at hR;have e1:(p.2.1[k].1 == 1)=false:=beq_eq_false_iff_ne.2 (by omega);have e2:(p.2.1[k].1 == 2)=true:=by first|rw [hv];rfl|exact beq_iff_eq.2 (by omega)
 have HR:=Lib.hid hR;clear hR hv L;go_enter func64,ntmps64;repeat' ((apply ZZ 1);first|(apply O ();go_step)|(apply sB ();clear V;intro bx w V)|fail)
 refine wp_region_lit ?_;repeat' (first|(apply O ();go_step)|apply sX ()|(apply sD ();intro cl hcl)|(apply sI ();intro v L)|(apply sA ();clear V;intro bk w V)|fail)
 obtain ⟨so,rfl,ho,hI1,hI2,hI3⟩:=A5 hcl;rw [show Z.agg Nd=true from rfl];apply nW ();repeat' ((apply ZZ 2);first|(apply O ();go_step)|(apply sS ();clear V;intro w V)|fail)
 obtain ⟨S1,hS1,hst1,hpn⟩:=AC (α:=Nd) V hcl rfl;clear V;obtain ⟨S2,hS2,V,hpp⟩:=AC (α:=Pg) hst1 (Z.mono hS1 hpr) rfl;clear hst1 hcl hpr ho hn;replace hpn:=Pt.mono hS2 hpn;generalize Value.pointer (some ⟨bk,0,none⟩)=pN at *;generalize Value.pointer (some ⟨bx,0,none⟩)=pP at *;have hSS2:=hS1.trans hS2;clear hS1 hS2;have cI:=fun {S':Ad} {M:List J} {so:Sv} {co:List Value} (w:World) (hC:RL S' co (C0 p)) (V:St S' (.sl (Ar so) 9 1 (C0 p).length co::M) w)=>Pw w so (C0 p) co hC (by omega) V (p.2.1[k]).2.2.1
 have hi:=Ok (p.2.1[k]).2.2.1 (C0 p) 0 (by omega);generalize Fo (p.2.1[k]).2.2.1 (C0 p) 0=ix at *;have cO:=fun {S' M} w (V:St S' M w)=>JR w V 2 ix 0 (Ah (by decide)) (by show -9223372036854775808≤ix∧ix≤9223372036854775807;omega) (Ah (by decide))
 repeat' ((apply ZZ 6);first|apply sK ()|(apply O ();go_step)|(apply sN ();intro hI)|(apply sI ();intro v L)|fail)
 refine Bm V kr ?_;clear V;intro w V;have hSS:=Cn V;apply nW ();refine px 0 rfl (Aw (y:=p) X hpp Y) ?_;rintro v0 ⟨c0,rfl,hc0⟩;refine px 2 rfl (As X hpn Y Y rfl) ?_;rintro v2 hp2;refine px 3 rfl (AO X hp2 Y) ?_;rintro v3 ⟨rfl,hs3⟩;refine po 1 rfl ?_;intro K G;refine sc (UO w V hb c0 (Z.mono hSS hc0)) ?_;clear V;rintro v1 w ⟨so1,co1,rfl,hC1,V⟩;refine pn G ?_;clear G K;refine po 4 rfl ?_;intro K G;refine sc (cI w hC1 V) ?_;clear V;rintro v4 w ⟨rfl,V⟩;refine pn G ?_;clear G K;refine po 5 rfl ?_;intro K G;refine sc (cO w V) ?_;clear V;rintro v5 w ⟨S3,so3,co3,hS3,rfl,hC3,V⟩;replace hSS:=hSS.trans hS3;refine pn G ?_;clear G K;refine pd 6 rfl ?_;refine AK kr ?_;repeat' (first|(apply O ();go_step)|fail)
 go_ret;exact ⟨_,rfl,S3,so3,co3,hSS2.trans hS3,rfl,by rw [← HR.out];exact hC3,by rw [← HR.out];exact (St.swap2 V).drop⟩
theorem dp (ih:Lr p f) (V:St S M w) (L:Cm S si sn p) (hw:Cl p) (hk:k < p.2.1.length) (hf:k+1≤f+1) (hq:0≤pos∧pos+4 * (Bp p.2.1 (f+1) k:Int)≤100000) (hv:(p.2.1[k]).1=13) :
  Ac prog 64 [Bo si sn p,.int .i64 (k:Int),.int .i64 pos] w (Db S M (AH p (f+1) k pos)):=by
 unfold Ac;obtain ⟨R,hR⟩:∃ R,AH p (f+1) k pos=R:=⟨_,rfl⟩
 rw [hR];rw [AH,Be hk] at hR;simp only at hR;have hn:=L.n;have hln:=L.ln;have hli:=L.li;have hvl:=DI p;have hb:Fs p:=⟨L.li,L.ln,L.lo⟩
 have hpr:=Fe L;rw [if_neg (by omega),if_neg (by omega),if_neg (by omega),if_pos hv] at hR;have e1:(p.2.1[k].1 == 1)=false:=beq_eq_false_iff_ne.2 (by omega);have e2:(p.2.1[k].1 == 2)=false:=beq_eq_false_iff_ne.2 (by omega);have e12:(p.2.1[k].1 == 12)=false:=beq_eq_false_iff_ne.2 (by omega);have e13:(p.2.1[k].1 == 13)=true:=by first|rw [hv];rfl|exact beq_iff_eq.2 (by omega)
 have hl1:(p.2.1[k]).2.2.2.1.length=1:=by
  have arr:=LR hw hk;unfold EW at arr;rw [if_neg (by omega),if_neg (by omega),if_neg (by omega),if_pos hv] at arr;exact arr.symm
 have hl0:0 < (p.2.1[k]).2.2.2.1.length:=by omega
 have hvis:=Hl (f:=f) hk hl0;have hbd:=Ej (f:=f) hw hk 0 hl0 (pos+2);have hcb:=QW p k L.li L.ln;have cM:=fun {S' M} w (V:St S' M w) cl (hR:Z.R S' cl p)=>Gl ih hw hk hf 0 hl0 w V cl hR (pos+2) (by omega)
 have cC:=fun {S' M} w (V:St S' M w) cl (hR:Z.R S' cl p)=>Pd w V hb k (by omega) cl hR
 generalize hB:AH p f (AU p.2.1[k] 0) (pos+2)=B at *;generalize hcn:D9 p k=cn at *;rw [Int.toNat_natCast,hcn] at hR;clear hB hcn;have HR:=Lib.hid hR;clear hR hv L;go_enter func64,ntmps64;repeat' ((apply ZZ 1);first|(apply O ();go_step)|(apply sB ();clear V;intro bx w V)|fail)
 refine wp_region_lit ?_;repeat' (first|(apply O ();go_step)|apply sX ()|(apply sD ();intro cl hcl)|(apply sI ();intro v L)|(apply sA ();clear V;intro bk w V)|fail)
 obtain ⟨so,rfl,ho,hI1,hI2,hI3⟩:=A5 hcl;rw [show Z.agg Nd=true from rfl];apply nW ();repeat' ((apply ZZ 2);first|(apply O ();go_step)|(apply sS ();clear V;intro w V)|fail)
 obtain ⟨S1,hS1,hst1,hpn⟩:=AC (α:=Nd) V hcl rfl;clear V;obtain ⟨S2,hS2,V,hpp⟩:=AC (α:=Pg) hst1 (Z.mono hS1 hpr) rfl;clear hst1 hcl hpr ho hn;replace hpn:=Pt.mono hS2 hpn;generalize Value.pointer (some ⟨bk,0,none⟩)=pN at *;generalize Value.pointer (some ⟨bx,0,none⟩)=pP at *;have hSS2:=hS1.trans hS2;clear hS1 hS2;have cO1:=fun {S' M} w (V:St S' M w)=>GA w V 1 (p.2.1[k]).2.1 0 (Ah (by decide)) hI2 (Ah (by decide))
 have cO2:=fun {S' M} w (V:St S' M w)=>GA w V 3 cn 0 (Ah (by decide)) (Ui ⟨by omega,by omega⟩) (Ah (by decide))
 have cO3:=fun {S' M} w (V:St S' M w)=>GA w V 17 cn (pos+2) (Ah (by decide)) (Ui ⟨by omega,by omega⟩) (Ui ⟨by omega,by omega⟩)
 have hlen:∀ x∈[i1 1 (p.2.1[k]).2.1 0,i1 3 cn 0,B,i1 17 cn (pos+2)],x.length≤100000:=by
  intro x hx;simp only [List.mem_cons,List.not_mem_nil,or_false] at hx;rcases hx with rfl|rfl|rfl|rfl
  ·show 1≤_;omega
  ·show 1≤_;omega
  ·omega
  ·show 1≤_;omega
 have HL:=Lib.hid hlen;clear hlen hl1;repeat' ((apply ZZ 10);first|apply sK ()|(apply O ();go_step)|(apply sN ();intro hI)|(apply sI ();intro v L)|fail)
 refine Bm V kr ?_;clear V;intro w V;have hSS:=Cn V;apply nW ();refine px 0 rfl (Aw (y:=p) X hpp Y) ?_;rintro v0 ⟨c0,rfl,hc0⟩;refine px 1 rfl (As X hpn Y Y rfl) ?_;rintro v1 hp1;refine px 2 rfl (Aj X hp1 Y) ?_;rintro v2 ⟨hv2,hv21⟩;replace hv2:RSl S2 v2 (p.2.1[k]).2.2.2.1:=hv2;refine px 3 rfl (Aq X hv2 rfl Y Y Af Af) ?_;rintro v3 hp3;(try simp only [Int.toNat_zero] at hp3);refine px 4 rfl (Am X hp3 Y) ?_;rintro v4 ⟨rfl,hI4⟩;refine pd 5 rfl ?_;refine pt 6 rfl (by exact DC rfl rfl Af) ?_;refine po 7 rfl ?_;intro K G;refine sc (cM w V c0 (Z.mono hSS hc0)) ?_;clear V;rintro v7 w ⟨S3,so3,hS3,rfl,hX3,V⟩;replace hSS:=hSS.trans hS3;refine pn G ?_;clear G K;refine pd 8 rfl ?_;refine AK kr ?_;have hpp3:=Pt.mono hSS hpp;have hpn3:=Pt.mono hSS hpn;have hS23:=hSS;clear hpp hpn hSS;repeat' ((apply ZZ 11);first|(apply O ();go_step)|fail)
 refine Bm V kr ?_;clear V;intro w V;have hSS:=Cn V;apply nW ();refine px 0 rfl (As X hpn3 Y Y rfl) ?_;rintro v0 hp0;refine px 1 rfl (Am X hp0 Y) ?_;rintro v1 ⟨rfl,hI5⟩;refine px 3 rfl (Aw (y:=p) X hpp3 Y) ?_;rintro v3 ⟨c3,rfl,hc3⟩;refine pd 4 rfl ?_;refine pd 7 rfl ?_;refine px 8 rfl (Aw (y:=p) X hpp3 Y) ?_;rintro v8 ⟨c8,rfl,hc8⟩;refine pd 9 rfl ?_;refine pd 11 rfl ?_;refine pt 12 rfl (by exact DC rfl rfl Af) ?_;refine po 2 rfl ?_;intro K G;refine sc (cO1 w V) ?_;clear V;rintro v2 w ⟨S4,so4,hS4,rfl,hX4,V⟩;replace hSS:=hSS.trans hS4;refine pn G ?_;clear G K;refine po 5 rfl ?_;intro K G;refine sc (cC w V c3 (Z.mono hSS hc3)) ?_;clear V;rintro v5 w ⟨rfl,V⟩;refine pn G ?_;clear G K;refine po 6 rfl ?_;intro K G;refine sc (cO2 w V) ?_;clear V;rintro v6 w ⟨S5,so5,hS5,rfl,hX5,V⟩;replace hSS:=hSS.trans hS5;refine pn G ?_;clear G K;refine po 10 rfl ?_;intro K G;refine sc (cC w V c8 (Z.mono hSS hc8)) ?_;clear V;rintro v10 w ⟨rfl,V⟩;refine pn G ?_;clear G K;refine po 13 rfl ?_;intro K G;refine sc (cO3 w V) ?_;clear V;rintro v13 w ⟨S6,so6,hS6,rfl,hX6,V⟩;replace hSS:=hSS.trans hS6;refine pn G ?_;clear G K
 refine po 14 rfl ?_;intro K G;refine Ay (vs:=[Ar so4,Ar so5,Ar so3,Ar so6]) V Y Y rfl rfl (by simp [Value.cells]) rfl (by omega) (by omega) ?_;clear V;intro x14 w hst0;obtain ⟨S7,hS7,V,hX7⟩:=St.freeze (α:=List Fg) hst0 (DX (hX4.mono (hS5.trans hS6)) (DX (hX5.mono hS6) (DX (hX3.mono (hS4.trans (hS5.trans hS6))) (DX hX6 RL.nil)))) rfl;clear hst0;obtain ⟨a7,n7,k7,rfl⟩:=BQ hX7;(try replace V:=nH V);replace hSS:=hSS.trans hS7;refine pn G ?_;clear G K;refine po 15 rfl ?_;intro K G;refine sc (Tx w V (a7,n7,k7) _ hX7 (by show 4≤10;omega) HL.out) ?_;clear V;rintro v15 w ⟨S8,so8,co8,hS8,rfl,hC8,V⟩;replace hSS:=hSS.trans hS8;refine pn G ?_;clear G K;refine pd 16 rfl ?_;refine AK kr ?_;repeat' (first|(apply O ();go_step)|fail)
 go_ret;have hfl:Hid ([i1 1 (p.2.1[k]).2.1 0,i1 3 cn 0,B,i1 17 cn (pos+2)].flatten=R):=Lib.hid (by rw [← HR.out];simp [List.flatten]);exact ⟨_,rfl,S8,so8,co8,hSS2.trans (hS23.trans hSS),rfl,by rw [← hfl.out];exact hC8,by rw [← hfl.out];exact V⟩
theorem dk (ih:Lr p f) (V:St S M w) (L:Cm S si sn p) (hw:Cl p) (hk:k < p.2.1.length) (hf:k+1≤f+1) (hq:0≤pos∧pos+4 * (Bp p.2.1 (f+1) k:Int)≤100000) (hv:(p.2.1[k]).1=17) :
  Ac prog 64 [Bo si sn p,.int .i64 (k:Int),.int .i64 pos] w (Db S M (AH p (f+1) k pos)):=by
 unfold Ac;obtain ⟨R,hR⟩:∃ R,AH p (f+1) k pos=R:=⟨_,rfl⟩
 rw [hR];rw [AH,Be hk] at hR;simp only at hR;have hn:=L.n;have hln:=L.ln;have hli:=L.li;have hvl:=DI p;have hb:Fs p:=⟨L.li,L.ln,L.lo⟩
 have hpr:=Fe L;rw [if_neg (by omega),if_neg (by omega),if_neg (by omega),if_neg (by omega),if_neg (by omega),if_neg (by omega),if_neg (by omega),if_neg (by omega),if_pos hv] at hR;have e1:(p.2.1[k].1 == 1)=false:=beq_eq_false_iff_ne.2 (by omega);have e2:(p.2.1[k].1 == 2)=false:=beq_eq_false_iff_ne.2 (by omega);have e12:(p.2.1[k].1 == 12)=false:=beq_eq_false_iff_ne.2 (by omega);have e13:(p.2.1[k].1 == 13)=false:=beq_eq_false_iff_ne.2 (by omega);have e15:(p.2.1[k].1 == 15)=false:=beq_eq_false_iff_ne.2 (by omega);have e16:(p.2.1[k].1 == 16)=false:=beq_eq_false_iff_ne.2 (by omega);have e11:(p.2.1[k].1 == 11)=false:=beq_eq_false_iff_ne.2 (by omega);have e14:(p.2.1[k].1 == 14)=false:=beq_eq_false_iff_ne.2 (by omega);have e17:(p.2.1[k].1 == 17)=true:=by first|rw [hv];rfl|exact beq_iff_eq.2 (by omega)
 have hp0:=L;have HR:=Lib.hid hR;clear hR hv L;go_enter func64,ntmps64;repeat' ((apply ZZ 1);first|(apply O ();go_step)|(apply sB ();clear V;intro bx w V)|fail)
 refine wp_region_lit ?_;repeat' (first|(apply O ();go_step)|apply sX ()|(apply sD ();intro cl hcl)|(apply sI ();intro v L)|(apply sA ();clear V;intro bk w V)|fail)
 obtain ⟨so,rfl,ho,hI1,hI2,hI3⟩:=A5 hcl;rw [show Z.agg Nd=true from rfl];apply nW ();repeat' ((apply ZZ 2);first|(apply O ();go_step)|(apply sS ();clear V;intro w V)|fail)
 obtain ⟨S1,hS1,hst1,hpn⟩:=AC (α:=Nd) V hcl rfl;clear V;obtain ⟨S2,hS2,V,hpp⟩:=AC (α:=Pg) hst1 (Z.mono hS1 hpr) rfl;clear hst1 hcl hpr ho hn;replace hpn:=Pt.mono hS2 hpn;generalize Value.pointer (some ⟨bk,0,none⟩)=pN at *;generalize Value.pointer (some ⟨bx,0,none⟩)=pP at *;have hSS2:=hS1.trans hS2;clear hS1 hS2;have HV:=Lib.hid (fun i (hi:i < (p.2.1[k]).2.2.2.1.length)=>Hl (f:=f) hk hi);have HB:=Lib.hid (fun i (hi:i < (p.2.1[k]).2.2.2.1.length) q=>Ej (f:=f) hw hk i hi q)
 have HM:=Lib.hid (fun i=>Gk (AH p f) (Bp p.2.1 f) ((p.2.1[k]).2.2.2.1.take i) pos [] (fun o ho q=>by
  obtain ⟨j,hj,rfl⟩:=List.getElem_of_mem (List.mem_of_mem_take ho);rw [← Ii hj];have:=Ej (f:=f) hw hk j hj q;rwa [← Ii hj] at this))
 have HC:=Lib.hid (fun i (hi:i < (p.2.1[k]).2.2.2.1.length) {S:Ad} {M:List J} (w:World) (V:St S M w) cl (hR:Z.R S cl p) pos hq=>Gl ih hw hk hf i hi w V cl hR pos hq);have hol:=hp0.lo _ (List.getElem_mem hk);have hvc:Bp p.2.1 (f+1) k≤25000:=by omega
 repeat' ((apply ZZ 16);first|apply sK ()|(apply O ();go_step)|(apply sN ();intro hI)|(apply sI ();intro v L)|fail)
 replace V:=V.nil 186 3;repeat' (first|(apply O ();go_step)|fail)
 go_loopw [9,10] (fun u9 u10 wr=>∃ (i n:Nat) (T:Ad) (a1:Option Addr) (k1:Nat) (co:List Value),i≤(p.2.1[k]).2.2.2.1.length∧S2.Le T∧u9=.slice a1 n k1∧u10=.int .i64 (i:Int)∧Hid (n=(Bz (AH p f) ((p.2.1[k]).2.2.2.1.take i) pos []).length)∧RL T co (Bz (AH p f) ((p.2.1[k]).2.2.2.1.take i) pos [])∧St T (.sl (.slice a1 n k1) 186 3 n co::M) wr) (fun _ v _=>(p.2.1[k]).2.2.2.1.length - (intOf v).toNat)
 case atStart=>exact ⟨0,0,S2,none,0,[],Nat.zero_le _,Ad.Le.refl S2,rfl,rfl,Lib.hid (by rw [List.take_zero,Bz];rfl),by rw [List.take_zero,Bz];exact RL.nil,V⟩
 case round =>
  clear V;obtain ⟨i,n,T,a1,k1,co1,hi2,hT,rfl,rfl,hnl,hC,V⟩:=hrel;have hpn:=Pt.mono hT hpn;have hpp:=Pt.mono hT hpp;have hone:=BE (k:=0) V rfl;by_cases hlt:i < (p.2.1[k]).2.2.2.1.length
  ·have hv1:=HV.out i hlt;have hm1:=HM.out i;apply b3 ()
  ·obtain rfl:i=(p.2.1[k]).2.2.2.1.length:=by omega
   rw [List.take_length] at hC hnl;have hm1:=HM.out (p.2.1[k]).2.2.2.1.length;rw [List.take_length,← hnl.out] at hm1;simp only [List.length_nil,Nat.zero_add] at hm1;have hvk:((p.2.1[k]).2.2.2.1.map (Bp p.2.1 f)).sum+1≤Bp p.2.1 (f+1) k:=by rw [Bp,Be hk];omega
   have hnb:n≤100000:=by omega
   clear hm1 hvk;generalize Bz (AH p f) (p.2.1[k]).2.2.2.1 pos []=Oqq at *;obtain rfl:=hnl.out;repeat' (first|apply sK ()|(apply O ();go_step)|apply sX ()|(apply sN ();intro hI)|(apply sL ();intro v hvl hv1)|(apply sI ();intro v L)|fail)
   go_ret;exact ⟨_,rfl,T,(a1,Oqq.length,k1),co1,hSS2.trans hT,rfl,by rw [← HR.out];exact hC,by rw [← HR.out];exact V⟩
theorem dn (ih:Lr p f) (V:St S M w) (L:Cm S si sn p) (hw:Cl p) (hk:k < p.2.1.length) (hf:k+1≤f+1) (hq:0≤pos∧pos+4 * (Bp p.2.1 (f+1) k:Int)≤100000) (hv:(p.2.1[k]).1=14) :
  Ac prog 64 [Bo si sn p,.int .i64 (k:Int),.int .i64 pos] w (Db S M (AH p (f+1) k pos)):=by
 unfold Ac;obtain ⟨R,hR⟩:∃ R,AH p (f+1) k pos=R:=⟨_,rfl⟩
 rw [hR];rw [AH,Be hk] at hR;simp only at hR;have hn:=L.n;have hln:=L.ln;have hli:=L.li;have hvl:=DI p;have hb:Fs p:=⟨L.li,L.ln,L.lo⟩
 have hpr:=Fe L;rw [if_neg (by omega),if_neg (by omega),if_neg (by omega),if_neg (by omega),if_neg (by omega),if_neg (by omega),if_neg (by omega),if_pos hv] at hR;have e1:(p.2.1[k].1 == 1)=false:=beq_eq_false_iff_ne.2 (by omega);have e2:(p.2.1[k].1 == 2)=false:=beq_eq_false_iff_ne.2 (by omega);have e12:(p.2.1[k].1 == 12)=false:=beq_eq_false_iff_ne.2 (by omega);have e13:(p.2.1[k].1 == 13)=false:=beq_eq_false_iff_ne.2 (by omega);have e15:(p.2.1[k].1 == 15)=false:=beq_eq_false_iff_ne.2 (by omega);have e16:(p.2.1[k].1 == 16)=false:=beq_eq_false_iff_ne.2 (by omega);have e11:(p.2.1[k].1 == 11)=false:=beq_eq_false_iff_ne.2 (by omega);have e14:(p.2.1[k].1 == 14)=true:=by first|rw [hv];rfl|exact beq_iff_eq.2 (by omega)
 have hp0:=L;have HR:=Lib.hid hR;clear hR hv L;go_enter func64,ntmps64;repeat' ((apply ZZ 1);first|(apply O ();go_step)|(apply sB ();clear V;intro bx w V)|fail)
 refine wp_region_lit ?_;repeat' (first|(apply O ();go_step)|apply sX ()|(apply sD ();intro cl hcl)|(apply sI ();intro v L)|(apply sA ();clear V;intro bk w V)|fail)
 obtain ⟨so,rfl,ho,hI1,hI2,hI3⟩:=A5 hcl;rw [show Z.agg Nd=true from rfl];apply nW ();repeat' ((apply ZZ 2);first|(apply O ();go_step)|(apply sS ();clear V;intro w V)|fail)
 obtain ⟨S1,hS1,hst1,hpn⟩:=AC (α:=Nd) V hcl rfl;clear V;obtain ⟨S2,hS2,V,hpp⟩:=AC (α:=Pg) hst1 (Z.mono hS1 hpr) rfl;clear hst1 hcl hpr ho hn;replace hpn:=Pt.mono hS2 hpn;generalize Value.pointer (some ⟨bk,0,none⟩)=pN at *;generalize Value.pointer (some ⟨bx,0,none⟩)=pP at *;have hSS2:=hS1.trans hS2;clear hS1 hS2;have HV:=Lib.hid (fun i (hi:i < (p.2.1[k]).2.2.2.1.length)=>Hl (f:=f) hk hi);have HB:=Lib.hid (fun i (hi:i < (p.2.1[k]).2.2.2.1.length) q=>Ej (f:=f) hw hk i hi q)
 have HM:=Lib.hid (fun i=>Gk (AH p f) (Bp p.2.1 f) ((p.2.1[k]).2.2.2.1.take i) pos [] (fun o ho q=>by
  obtain ⟨j,hj,rfl⟩:=List.getElem_of_mem (List.mem_of_mem_take ho);rw [← Ii hj];have:=Ej (f:=f) hw hk j hj q;rwa [← Ii hj] at this))
 have HC:=Lib.hid (fun i (hi:i < (p.2.1[k]).2.2.2.1.length) {S:Ad} {M:List J} (w:World) (V:St S M w) cl (hR:Z.R S cl p) pos hq=>Gl ih hw hk hf i hi w V cl hR pos hq);have hol:=hp0.lo _ (List.getElem_mem hk);have hvc:Bp p.2.1 (f+1) k≤25000:=by omega
 repeat' ((apply ZZ 16);first|apply sK ()|(apply O ();go_step)|(apply sN ();intro hI)|(apply sI ();intro v L)|fail)
 replace V:=V.nil 186 3;repeat' (first|(apply O ();go_step)|fail)
 go_loopw [9,10] (fun u9 u10 wr=>∃ (i n:Nat) (T:Ad) (a1:Option Addr) (k1:Nat) (co:List Value),i≤(p.2.1[k]).2.2.2.1.length∧S2.Le T∧u9=.slice a1 n k1∧u10=.int .i64 (i:Int)∧Hid (n=(Bz (AH p f) ((p.2.1[k]).2.2.2.1.take i) pos []).length)∧RL T co (Bz (AH p f) ((p.2.1[k]).2.2.2.1.take i) pos [])∧St T (.sl (.slice a1 n k1) 186 3 n co::M) wr) (fun _ v _=>(p.2.1[k]).2.2.2.1.length - (intOf v).toNat)
 case atStart=>exact ⟨0,0,S2,none,0,[],Nat.zero_le _,Ad.Le.refl S2,rfl,rfl,Lib.hid (by rw [List.take_zero,Bz];rfl),by rw [List.take_zero,Bz];exact RL.nil,V⟩
 case round =>
  clear V;obtain ⟨i,n,T,a1,k1,co1,hi2,hT,rfl,rfl,hnl,hC,V⟩:=hrel;have hpn:=Pt.mono hT hpn;have hpp:=Pt.mono hT hpp;have hone:=BE (k:=0) V rfl;by_cases hlt:i < (p.2.1[k]).2.2.2.1.length
  ·have hv1:=HV.out i hlt;have hm1:=HM.out i;apply b3 ()
  ·obtain rfl:i=(p.2.1[k]).2.2.2.1.length:=by omega
   rw [List.take_length] at hC hnl;have hm1:=HM.out (p.2.1[k]).2.2.2.1.length;rw [List.take_length,← hnl.out] at hm1;simp only [List.length_nil,Nat.zero_add] at hm1;have hvk:((p.2.1[k]).2.2.2.1.map (Bp p.2.1 f)).sum+1≤Bp p.2.1 (f+1) k:=by rw [Bp,Be hk];omega
   have hnb:n≤100000:=by omega
   clear hm1 hvk;generalize Bz (AH p f) (p.2.1[k]).2.2.2.1 pos []=Oqq at *;obtain rfl:=hnl.out;have cO:=fun {S' M} w (V:St S' M w)=>GA w V 14 0 0 (Ah (by decide)) (Ah (by decide)) (Ah (by decide))
   repeat' (first|apply sK ()|(apply O ();go_step)|(apply kc ();refine sc (cO _ V) ?_;clear V;rintro v w ⟨S3,so3,hS3,rfl,hX3,V⟩)|apply sX ()|(apply sN ();intro hI)|(apply sL ();intro v hvl hv1)|(apply sI ();intro v L)|fail)
   apply wt ();clear V;intro x w d hd V;apply nW ();obtain ⟨ay,cy,rfl⟩:=Go.Sl.sl_formk (k:=0) V rfl;repeat' (first|(apply O ();go_step)|fail)
   go_ret;exact ⟨_,rfl,S3,(ay,Oqq.length+1,cy),co1++d,hSS2.trans (hT.trans hS3),rfl,by rw [← HR.out];exact (hC.mono hS3).append hd,by rw [← HR.out,List.length_append];exact V⟩
theorem dr (ih:Lr p f) (V:St S M w) (L:Cm S si sn p) (hw:Cl p) (hk:k < p.2.1.length) (hf:k+1≤f+1) (hq:0≤pos∧pos+4 * (Bp p.2.1 (f+1) k:Int)≤100000) (hv:(p.2.1[k]).1=11) :
  Ac prog 64 [Bo si sn p,.int .i64 (k:Int),.int .i64 pos] w (Db S M (AH p (f+1) k pos)):=by
 unfold Ac;obtain ⟨R,hR⟩:∃ R,AH p (f+1) k pos=R:=⟨_,rfl⟩
 rw [hR];rw [AH,Be hk] at hR;simp only at hR;have hn:=L.n;have hln:=L.ln;have hli:=L.li;have hvl:=DI p;have hb:Fs p:=⟨L.li,L.ln,L.lo⟩
 have hpr:=Fe L;rw [if_neg (by omega),if_neg (by omega),if_neg (by omega),if_neg (by omega),if_neg (by omega),if_neg (by omega),if_pos hv] at hR;have e1:(p.2.1[k].1 == 1)=false:=beq_eq_false_iff_ne.2 (by omega);have e2:(p.2.1[k].1 == 2)=false:=beq_eq_false_iff_ne.2 (by omega);have e12:(p.2.1[k].1 == 12)=false:=beq_eq_false_iff_ne.2 (by omega);have e13:(p.2.1[k].1 == 13)=false:=beq_eq_false_iff_ne.2 (by omega);have e15:(p.2.1[k].1 == 15)=false:=beq_eq_false_iff_ne.2 (by omega);have e16:(p.2.1[k].1 == 16)=false:=beq_eq_false_iff_ne.2 (by omega);have e11:(p.2.1[k].1 == 11)=true:=by first|rw [hv];rfl|exact beq_iff_eq.2 (by omega)
 have hp0:=L;have HR:=Lib.hid hR;clear hR hv L;go_enter func64,ntmps64;repeat' ((apply ZZ 1);first|(apply O ();go_step)|(apply sB ();clear V;intro bx w V)|fail)
 refine wp_region_lit ?_;repeat' (first|(apply O ();go_step)|apply sX ()|(apply sD ();intro cl hcl)|(apply sI ();intro v L)|(apply sA ();clear V;intro bk w V)|fail)
 obtain ⟨so,rfl,ho,hI1,hI2,hI3⟩:=A5 hcl;rw [show Z.agg Nd=true from rfl];apply nW ();repeat' ((apply ZZ 2);first|(apply O ();go_step)|(apply sS ();clear V;intro w V)|fail)
 obtain ⟨S1,hS1,hst1,hpn⟩:=AC (α:=Nd) V hcl rfl;clear V;obtain ⟨S2,hS2,V,hpp⟩:=AC (α:=Pg) hst1 (Z.mono hS1 hpr) rfl;clear hst1 hcl hpr ho hn;replace hpn:=Pt.mono hS2 hpn;generalize Value.pointer (some ⟨bk,0,none⟩)=pN at *;generalize Value.pointer (some ⟨bx,0,none⟩)=pP at *;have hSS2:=hS1.trans hS2;clear hS1 hS2;have HV:=Lib.hid (fun i (hi:i < (p.2.1[k]).2.2.2.1.length)=>Hl (f:=f) hk hi);have HB:=Lib.hid (fun i (hi:i < (p.2.1[k]).2.2.2.1.length) q=>Ej (f:=f) hw hk i hi q)
 have HM:=Lib.hid (fun i=>Gk (AH p f) (Bp p.2.1 f) ((p.2.1[k]).2.2.2.1.take i) pos [] (fun o ho q=>by
  obtain ⟨j,hj,rfl⟩:=List.getElem_of_mem (List.mem_of_mem_take ho);rw [← Ii hj];have:=Ej (f:=f) hw hk j hj q;rwa [← Ii hj] at this))
 have HC:=Lib.hid (fun i (hi:i < (p.2.1[k]).2.2.2.1.length) {S:Ad} {M:List J} (w:World) (V:St S M w) cl (hR:Z.R S cl p) pos hq=>Gl ih hw hk hf i hi w V cl hR pos hq);have hol:=hp0.lo _ (List.getElem_mem hk);have hvc:Bp p.2.1 (f+1) k≤25000:=by omega
 repeat' ((apply ZZ 16);first|apply sK ()|(apply O ();go_step)|(apply sN ();intro hI)|(apply sI ();intro v L)|fail)
 replace V:=V.nil 186 3;repeat' (first|(apply O ();go_step)|fail)
 go_loopw [9,10] (fun u9 u10 wr=>∃ (i n:Nat) (T:Ad) (a1:Option Addr) (k1:Nat) (co:List Value),i≤(p.2.1[k]).2.2.2.1.length∧S2.Le T∧u9=.slice a1 n k1∧u10=.int .i64 (i:Int)∧Hid (n=(Bz (AH p f) ((p.2.1[k]).2.2.2.1.take i) pos []).length)∧RL T co (Bz (AH p f) ((p.2.1[k]).2.2.2.1.take i) pos [])∧St T (.sl (.slice a1 n k1) 186 3 n co::M) wr) (fun _ v _=>(p.2.1[k]).2.2.2.1.length - (intOf v).toNat)
 case atStart=>exact ⟨0,0,S2,none,0,[],Nat.zero_le _,Ad.Le.refl S2,rfl,rfl,Lib.hid (by rw [List.take_zero,Bz];rfl),by rw [List.take_zero,Bz];exact RL.nil,V⟩
 case round =>
  clear V;obtain ⟨i,n,T,a1,k1,co1,hi2,hT,rfl,rfl,hnl,hC,V⟩:=hrel;have hpn:=Pt.mono hT hpn;have hpp:=Pt.mono hT hpp;have hone:=BE (k:=0) V rfl;by_cases hlt:i < (p.2.1[k]).2.2.2.1.length
  ·have hv1:=HV.out i hlt;have hm1:=HM.out i;apply b3 ()
  ·obtain rfl:i=(p.2.1[k]).2.2.2.1.length:=by omega
   rw [List.take_length] at hC hnl;have hm1:=HM.out (p.2.1[k]).2.2.2.1.length;rw [List.take_length,← hnl.out] at hm1;simp only [List.length_nil,Nat.zero_add] at hm1;have hvk:((p.2.1[k]).2.2.2.1.map (Bp p.2.1 f)).sum+1≤Bp p.2.1 (f+1) k:=by rw [Bp,Be hk];omega
   have hnb:n≤100000:=by omega
   clear hm1 hvk;generalize Bz (AH p f) (p.2.1[k]).2.2.2.1 pos []=Oqq at *;obtain rfl:=hnl.out;have cI:=fun {S':Ad} {M:List J} {so:Sv} {co:List Value} (w:World) (hC:RL S' co (C0 p)) (V:St S' (.sl (Ar so) 9 1 (C0 p).length co::M) w)=>Pw w so (C0 p) co hC (by omega) V (p.2.1[k]).2.2.1
   have hi:=Ok (p.2.1[k]).2.2.1 (C0 p) 0 (by omega);generalize Fo (p.2.1[k]).2.2.1 (C0 p) 0=ix at *;have cO:=fun {S' M} w (V:St S' M w)=>GA w V 3 ix 0 (Ah (by decide)) (by show -9223372036854775808≤ix∧ix≤9223372036854775807;omega) (Ah (by decide))
   repeat' ((apply ZZ 23);first|apply sK ()|(apply O ();go_step)|apply sX ()|(apply sN ();intro hI)|(apply sL ();intro v hvl hv1)|(apply sI ();intro v L)|fail)
   refine Bm V kr ?_;clear V;intro w V;have hSS:=Cn V;apply nW ();refine pd 0 rfl ?_;refine px 1 rfl (Aw (y:=p) X hpp Y) ?_;rintro v1 ⟨c1,rfl,hc1⟩;refine px 3 rfl (As X hpn Y Y rfl) ?_;rintro v3 hp3;refine px 4 rfl (AO X hp3 Y) ?_;rintro v4 ⟨rfl,hs4⟩;refine po 2 rfl ?_;intro K G;refine sc (UO w V hb c1 (Z.mono hSS hc1)) ?_;clear V;rintro v2 w ⟨so2,co2,rfl,hC2,V⟩;refine pn G ?_;clear G K;refine po 5 rfl ?_;intro K G;refine sc (cI w hC2 V) ?_;clear V;rintro v5 w ⟨rfl,V⟩;refine pn G ?_;clear G K;refine po 6 rfl ?_;intro K G;refine sc (cO w V) ?_;clear V;rintro v6 w ⟨S3,so3,hS3,rfl,hX3,V⟩;replace hSS:=hSS.trans hS3;refine pn G ?_;clear G K;refine po 7 rfl ?_;intro K G;apply wt ();clear V;intro x7 w d hd V;(try replace V:=nH V);refine pn G ?_;clear G K;refine pd 8 rfl ?_;refine AK kr ?_;obtain ⟨ay,cy,rfl⟩:=Go.Sl.sl_formk (k:=1) V rfl;repeat' (first|(apply O ();go_step)|fail)
   go_ret;exact ⟨_,rfl,S3,(ay,Oqq.length+1,cy),co1++d,hSS2.trans (hT.trans hS3),rfl,by rw [← HR.out];exact (hC.mono hS3).append hd,by rw [← HR.out,List.length_append];exact V.drop⟩
theorem dj (ih:Lr p f) (V:St S M w) (L:Cm S si sn p) (hw:Cl p) (hk:k < p.2.1.length) (hf:k+1≤f+1) (hq:0≤pos∧pos+4 * (Bp p.2.1 (f+1) k:Int)≤100000) (hv:3≤(p.2.1[k]).1∧(p.2.1[k]).1≤10) :
  Ac prog 64 [Bo si sn p,.int .i64 (k:Int),.int .i64 pos] w (Db S M (AH p (f+1) k pos)):=by
 unfold Ac;obtain ⟨R,hR⟩:∃ R,AH p (f+1) k pos=R:=⟨_,rfl⟩
 rw [hR];rw [AH,Be hk] at hR;simp only at hR;have hn:=L.n;have hln:=L.ln;have hli:=L.li;have hvl:=DI p;have hb:Fs p:=⟨L.li,L.ln,L.lo⟩
 have hpr:=Fe L;rw [if_neg (by omega),if_neg (by omega),if_neg (by omega),if_neg (by omega),if_neg (by omega),if_neg (by omega),if_neg (by omega),if_neg (by omega),if_neg (by omega)] at hR;have e1:(p.2.1[k].1 == 1)=false:=beq_eq_false_iff_ne.2 (by omega);have e2:(p.2.1[k].1 == 2)=false:=beq_eq_false_iff_ne.2 (by omega);have e12:(p.2.1[k].1 == 12)=false:=beq_eq_false_iff_ne.2 (by omega);have e13:(p.2.1[k].1 == 13)=false:=beq_eq_false_iff_ne.2 (by omega);have e15:(p.2.1[k].1 == 15)=false:=beq_eq_false_iff_ne.2 (by omega);have e16:(p.2.1[k].1 == 16)=false:=beq_eq_false_iff_ne.2 (by omega);have e11:(p.2.1[k].1 == 11)=false:=beq_eq_false_iff_ne.2 (by omega);have e14:(p.2.1[k].1 == 14)=false:=beq_eq_false_iff_ne.2 (by omega);have e17:(p.2.1[k].1 == 17)=false:=beq_eq_false_iff_ne.2 (by omega);have hp0:=L;have hvr:=hv;have HR:=Lib.hid hR;clear hR hv L;go_enter func64,ntmps64;repeat' ((apply ZZ 1);first|(apply O ();go_step)|(apply sB ();clear V;intro bx w V)|fail)
 refine wp_region_lit ?_;repeat' (first|(apply O ();go_step)|apply sX ()|(apply sD ();intro cl hcl)|(apply sI ();intro v L)|(apply sA ();clear V;intro bk w V)|fail)
 obtain ⟨so,rfl,ho,hI1,hI2,hI3⟩:=A5 hcl;rw [show Z.agg Nd=true from rfl];apply nW ();repeat' ((apply ZZ 2);first|(apply O ();go_step)|(apply sS ();clear V;intro w V)|fail)
 obtain ⟨S1,hS1,hst1,hpn⟩:=AC (α:=Nd) V hcl rfl;clear V;obtain ⟨S2,hS2,V,hpp⟩:=AC (α:=Pg) hst1 (Z.mono hS1 hpr) rfl;clear hst1 hcl hpr ho hn;replace hpn:=Pt.mono hS2 hpn;generalize Value.pointer (some ⟨bk,0,none⟩)=pN at *;generalize Value.pointer (some ⟨bx,0,none⟩)=pP at *;have hSS2:=hS1.trans hS2;clear hS1 hS2;have HV:=Lib.hid (fun i (hi:i < (p.2.1[k]).2.2.2.1.length)=>Hl (f:=f) hk hi);have HB:=Lib.hid (fun i (hi:i < (p.2.1[k]).2.2.2.1.length) q=>Ej (f:=f) hw hk i hi q)
 have HM:=Lib.hid (fun i=>Gk (AH p f) (Bp p.2.1 f) ((p.2.1[k]).2.2.2.1.take i) pos [] (fun o ho q=>by
  obtain ⟨j,hj,rfl⟩:=List.getElem_of_mem (List.mem_of_mem_take ho);rw [← Ii hj];have:=Ej (f:=f) hw hk j hj q;rwa [← Ii hj] at this))
 have HC:=Lib.hid (fun i (hi:i < (p.2.1[k]).2.2.2.1.length) {S:Ad} {M:List J} (w:World) (V:St S M w) cl (hR:Z.R S cl p) pos hq=>Gl ih hw hk hf i hi w V cl hR pos hq);have hol:=hp0.lo _ (List.getElem_mem hk);have hvc:Bp p.2.1 (f+1) k≤25000:=by omega
 repeat' ((apply ZZ 16);first|apply sK ()|(apply O ();go_step)|(apply sN ();intro hI)|(apply sI ();intro v L)|fail)
 replace V:=V.nil 186 3;repeat' (first|(apply O ();go_step)|fail)
 go_loopw [9,10] (fun u9 u10 wr=>∃ (i n:Nat) (T:Ad) (a1:Option Addr) (k1:Nat) (co:List Value),i≤(p.2.1[k]).2.2.2.1.length∧S2.Le T∧u9=.slice a1 n k1∧u10=.int .i64 (i:Int)∧Hid (n=(Bz (AH p f) ((p.2.1[k]).2.2.2.1.take i) pos []).length)∧RL T co (Bz (AH p f) ((p.2.1[k]).2.2.2.1.take i) pos [])∧St T (.sl (.slice a1 n k1) 186 3 n co::M) wr) (fun _ v _=>(p.2.1[k]).2.2.2.1.length - (intOf v).toNat)
 case atStart=>exact ⟨0,0,S2,none,0,[],Nat.zero_le _,Ad.Le.refl S2,rfl,rfl,Lib.hid (by rw [List.take_zero,Bz];rfl),by rw [List.take_zero,Bz];exact RL.nil,V⟩
 case round =>
  clear V;obtain ⟨i,n,T,a1,k1,co1,hi2,hT,rfl,rfl,hnl,hC,V⟩:=hrel;have hpn:=Pt.mono hT hpn;have hpp:=Pt.mono hT hpp;have hone:=BE (k:=0) V rfl;by_cases hlt:i < (p.2.1[k]).2.2.2.1.length
  ·have hv1:=HV.out i hlt;have hm1:=HM.out i;apply b3 ()
  ·obtain rfl:i=(p.2.1[k]).2.2.2.1.length:=by omega
   rw [List.take_length] at hC hnl;have hm1:=HM.out (p.2.1[k]).2.2.2.1.length;rw [List.take_length,← hnl.out] at hm1;simp only [List.length_nil,Nat.zero_add] at hm1;have hvk:((p.2.1[k]).2.2.2.1.map (Bp p.2.1 f)).sum+1≤Bp p.2.1 (f+1) k:=by rw [Bp,Be hk];omega
   have hnb:n≤100000:=by omega
   clear hm1 hvk;generalize Bz (AH p f) (p.2.1[k]).2.2.2.1 pos []=Oqq at *;obtain rfl:=hnl.out;have hox:(p.2.1[k]).1.toNat < Kl.length:=by show _ < 11;omega
   have hog:Kl.getD (p.2.1[k]).1.toNat 0=Kl[(p.2.1[k]).1.toNat]:=by rw [List.getD_eq_getElem?_getD,List.getElem?_eq_getElem hox];rfl
   have HR2:Hid (Oqq++i1 (Kl[(p.2.1[k]).1.toNat]) 0 0=R):=Lib.hid (by rw [← HR.out,hog])
   have hoi:Au (Kl[(p.2.1[k]).1.toNat]):=by
    have:∀ x∈Kl,0≤x∧x≤100000:=by decide
    exact Ah (this _ (List.getElem_mem hox))
   have cO:=fun {S' M} w (V:St S' M w)=>GA w V (Kl[(p.2.1[k]).1.toNat]) 0 0 hoi (Ah (by decide)) (Ah (by decide))
   clear HR hog;repeat' (first|apply sK ()|(apply O ();go_step)|apply sX ()|(apply sN ();intro hI)|(apply sL ();intro v hvl hv1)|(apply sI ();intro v L)|fail)
   refine Ay (vs:=[.int .i64 0,.int .i64 0,.int .i64 0,.int .i64 4,.int .i64 5,.int .i64 6,.int .i64 7,.int .i64 8,.int .i64 9,.int .i64 10,.int .i64 11]) V Y Y rfl rfl (by simp [Value.cells]) rfl (by omega) (by omega) ?_;clear V;intro x w V;obtain ⟨S5,so5,hS5,rfl,hx5,hst5⟩:=Ex V (fg (S:=T)) rfl;clear V;have V:=hst5;clear hst5;have hpn:=Pt.mono hS5 hpn;apply nW ();repeat' (first|(apply O ();go_step)|(apply kc ();refine sc (cO _ V) ?_;clear V;rintro v w ⟨S3,so3,hS3,rfl,hX3,V⟩)|(apply sN ();intro hI)|(apply sI ();intro v L)|fail)
   apply wt ();clear V;intro x w d hd V;apply nW ();obtain ⟨ay,cy,rfl⟩:=Go.Sl.sl_formk (k:=0) V rfl;repeat' (first|(apply O ();go_step)|fail)
   go_ret;exact ⟨_,rfl,S3,(ay,Oqq.length+1,cy),co1++d,hSS2.trans (hT.trans (hS5.trans hS3)),rfl,by rw [← HR2.out];exact (hC.mono (hS5.trans hS3)).append hd,by rw [← HR2.out,List.length_append];exact V⟩
end
end Go.Proofs.YtmmbidoldegemaaGreatDoor
