/- Part 23 of a proof; no conditions. -/
import Derived.Test.YtmmbidoldegemaaGreatDoorZ21
set_option linter.all false
set_option maxRecDepth 8000
set_option maxHeartbeats 8000000
namespace Go.Proofs.YtmmbidoldegemaaGreatDoor
open Go.RowKit Go.Sl Go.Proofs.Tryz
def Kw (x:Nd):Bool:=!(decide (x.1=1∧¬ (0≤x.2.1∧x.2.1≤65535)) || decide (x.1=13∧¬ (1≤x.2.1∧x.2.1≤8)) || decide (x.1=15∧¬ (1≤x.2.1∧x.2.1≤255)))
def JM (x:Ip):Bool:=!(decide (x.2.1=1∧¬ (0≤x.2.2.1∧x.2.2.1≤7)) || decide (x.2.1=2∧(¬ (0≤x.2.2.1∧x.2.2.1≤3)∨¬ (1≤x.2.2.2.1∧x.2.2.2.1≤17))) || decide (x.2.1=4∧¬ (1≤x.2.2.2.1∧x.2.2.2.1≤1024)))
theorem bL (p):G3 p=(p.2.1.all Kw && p.1.all JM):=rfl
theorem iy {x} (h:x.1=1):Kw x=decide (0≤x.2.1∧x.2.1≤65535):=by unfold Kw;rw [Bool.eq_iff_iff];simp [h]
theorem fd {x} (h:x.1=13):Kw x=decide (1≤x.2.1∧x.2.1≤8):=by unfold Kw;rw [Bool.eq_iff_iff];simp [h]
theorem fc {x} (h:x.1=15):Kw x=decide (1≤x.2.1∧x.2.1≤255):=by unfold Kw;rw [Bool.eq_iff_iff];simp [h]
theorem iw {x} (h:x.1≠1∧x.1≠13∧x.1≠15):Kw x=true:=by unfold Kw;simp [h.1,h.2.1,h.2.2]
theorem iC {x} (h:x.2.1=1):JM x=decide (0≤x.2.2.1∧x.2.2.1≤7):=by unfold JM;rw [Bool.eq_iff_iff];simp [h]
theorem iB {x} (h:x.2.1=2):JM x=(decide (0≤x.2.2.1∧x.2.2.1≤3) && decide (1≤x.2.2.2.1∧x.2.2.2.1≤17)):=by
 unfold JM;rw [Bool.eq_iff_iff];simp [h]
theorem iA {x} (h:x.2.1=4):JM x=decide (1≤x.2.2.2.1∧x.2.2.2.1≤1024):=by unfold JM;rw [Bool.eq_iff_iff];simp [h]
theorem iz {x} (h:x.2.1≠1∧x.2.1≠2∧x.2.1≠4):JM x=true:=by unfold JM;simp [h.1,h.2.1,h.2.2]
theorem MK {α:Type} (q) (xs:List α) {i} (h):(xs.take (i+1)).all q=((xs.take i).all q && q xs[i]):=by
 rw [List.take_succ_eq_append_getElem h,List.all_append];simp
theorem Q4 {α:Type} {q} {xs:List α} {i:Nat} (h) (hq:q xs[i]=false):xs.all q=false:=by
 rw [List.all_eq_false];exact ⟨xs[i],List.getElem_mem h,by rw [hq];decide⟩
theorem Yy {S M} (w) (V:St S M w) (si sn p) (L:Cm S si sn p):
  Ac prog 69 [Bo si sn p] w fun v w'=>v=.bool (G3 p)∧St S M w':=by
 unfold Ac;have hn:=L.n;have hi:=L.i;have hln:=L.ln;have hli:=L.li;obtain ⟨R,hR⟩:∃ R,G3 p=R:=⟨_,rfl⟩
 rw [hR];rw [bL] at hR;have HR:=Lib.hid hR;clear hR L;generalize hxs:p.1=xs at HR hi hli;generalize hns:p.2.1=ns at HR hn hln;clear hxs hns;have cN:=fun {M} w (V:St S M w) (n a b:Int)=>gg w V n a b
 go_enter func69,ntmps69;repeat' (first|(apply O ();go_step)|(apply sB ();clear V;intro bx w V)|fail)
 go_loopw [3,4] (fun u3 _ wr=>∃ (i:Nat),i≤ns.length∧u3=.int .i64 (i:Int)∧Hid ((ns.take i).all Kw=true)∧St S (.box bx [.slice si.1 si.2.1 si.2.2,.slice sn.1 sn.2.1 sn.2.2,.int .i64 p.2.2.1,.int .i64 p.2.2.2.1] 87::M) wr) (fun v _ _=>ns.length - (intOf v).toNat)
 case atStart=>exact ⟨0,Nat.zero_le _,rfl,Lib.hid rfl,V⟩
 case round =>
  clear V;obtain ⟨i,hi2,rfl,HA,V⟩:=hrel;by_cases hlt:i < ns.length
  ·have hnx:=Lib.hid (MK Kw ns hlt);have hno:=fun h=>Lib.hid (Q4 (q:=Kw) hlt h)
   obtain ⟨Xqq,hX⟩:∃ Xqq,ns[i]=Xqq:=⟨_,rfl⟩
   rw [hX] at hnx hno;repeat' ((apply ZZ 4);first|(apply O ();go_step)|apply sX ()|fail)
   refine wp_region_lit ?_;repeat' (first|(apply O ();go_step)|apply sX ()|(apply sD ();intro cl hcl)|(apply sI ();intro v L)|(apply sA ();clear V;intro bk w V)|fail)
   rw [hX] at hcl;clear hX;obtain ⟨so,rfl,ho,hI1,hI2,hI3⟩:=A5 hcl;clear hcl;rw [show Z.agg Nd=true from rfl];apply nW ();by_cases h:Xqq.1=1∨Xqq.1=13∨Xqq.1=15
   ·rcases h with h|h|h
    ·have hq0:=iy h;have c1:=fun {M} w (V:St S M w)=>cN w V Xqq.2.1 0 65535
     generalize decide (0≤Xqq.2.1∧Xqq.2.1≤65535)=z at *;have e1:(Xqq.1 == 1)=true:=by rw [h];rfl
     have e13:(Xqq.1 == 13)=false:=by rw [h];rfl
     have e15:(Xqq.1 == 15)=false:=by rw [h];rfl
     apply g5 ()
    ·have hq0:=fd h;have c1:=fun {M} w (V:St S M w)=>cN w V Xqq.2.1 1 8
     generalize decide (1≤Xqq.2.1∧Xqq.2.1≤8)=z at *;have e1:(Xqq.1 == 1)=false:=by rw [h];rfl
     have e13:(Xqq.1 == 13)=true:=by rw [h];rfl
     have e15:(Xqq.1 == 15)=false:=by rw [h];rfl
     apply g5 ()
    ·have hq0:=fc h;have c1:=fun {M} w (V:St S M w)=>cN w V Xqq.2.1 1 255
     generalize decide (1≤Xqq.2.1∧Xqq.2.1≤255)=z at *;have e1:(Xqq.1 == 1)=false:=by rw [h];rfl
     have e13:(Xqq.1 == 13)=false:=by rw [h];rfl
     have e15:(Xqq.1 == 15)=true:=by rw [h];rfl
     apply g5 ()
   ·have hq:=iw (x:=Xqq) (by omega);have e1:(Xqq.1 == 1)=false:=by exact beq_eq_false_iff_ne.2 (by omega)
    have e13:(Xqq.1 == 13)=false:=by exact beq_eq_false_iff_ne.2 (by omega)
    have e15:(Xqq.1 == 15)=false:=by exact beq_eq_false_iff_ne.2 (by omega)
    clear h cN;repeat' (first|apply sK ()|apply sG ()|(apply O ();go_step)|apply sX ()|(apply sS ();clear V;intro w V)|fail)
    apply Xa ()
  ·have HF:=HA.out;rw [List.take_of_length_le (by omega)] at HF;have HE:=HR.out;rw [HF,Bool.true_and] at HE;replace HE:=Lib.hid HE;clear HR HF HA;repeat' (first|(apply O ();go_step)|apply sX ()|fail)
   go_loopw [5,6] (fun u5 _ wr=>∃ (i:Nat),i≤xs.length∧u5=.int .i64 (i:Int)∧Hid ((xs.take i).all JM=true)∧St S (.box bx [.slice si.1 si.2.1 si.2.2,.slice sn.1 sn.2.1 sn.2.2,.int .i64 p.2.2.1,.int .i64 p.2.2.2.1] 87::M) wr) (fun v _ _=>xs.length - (intOf v).toNat)
   case atStart=>exact ⟨0,Nat.zero_le _,rfl,Lib.hid rfl,V⟩
   case round =>
    clear V;rename_i i0 hlt0;obtain ⟨i,hi3,rfl,HA,V⟩:=hrel;by_cases hlt:i < xs.length
    ·have hnx:=Lib.hid (MK JM xs hlt);have hno:=fun h=>Lib.hid (Q4 (q:=JM) hlt h)
     by_cases h:xs[i].2.1=1∨xs[i].2.1=2∨xs[i].2.1=4
     ·rcases h with h|h|h
      ·have hq0:=iC h;have c1:=fun {M} w (V:St S M w)=>cN w V xs[i].2.2.1 0 7
       generalize decide (0≤xs[i].2.2.1∧xs[i].2.2.1≤7)=z at *;have e1:(xs[i].2.1 == 1)=true:=by rw [h];rfl
       have e2:(xs[i].2.1 == 2)=false:=by rw [h];rfl
       have e4:(xs[i].2.1 == 4)=false:=by rw [h];rfl
       clear h cN
       cases z with
       | false =>
        have HF:=hno hq0;apply gZ ()
       | true =>
        have hq:=hq0;repeat' (first|apply sK ()|apply sG ()|(apply O ();go_step)|(apply kc ();refine sc (c1 _ V) ?_;clear V;rintro v w ⟨rfl,V⟩)|apply sX ()|apply sP ()|(apply sI ();intro v L)|(apply sS ();clear V;intro w V)|(apply sA ();clear V;intro bk w V)|fail)
        apply Xa ()
      ·have hq0:=iB h;have c1:=fun {M} w (V:St S M w)=>cN w V xs[i].2.2.1 0 3
       have c2:=fun {M} w (V:St S M w)=>cN w V xs[i].2.2.2.1 1 17
       generalize decide (0≤xs[i].2.2.1∧xs[i].2.2.1≤3)=z at *;generalize decide (1≤xs[i].2.2.2.1∧xs[i].2.2.2.1≤17)=z2 at *;have e1:(xs[i].2.1 == 1)=false:=by rw [h];rfl
       have e2:(xs[i].2.1 == 2)=true:=by rw [h];rfl
       have e4:(xs[i].2.1 == 4)=false:=by rw [h];rfl
       clear h cN
       cases z with
       | false =>
        have HF:=hno (by rw [hq0];rfl);apply gZ ()
       | true =>
        cases z2 with
        | false =>
         have HF:=hno (by rw [hq0];rfl);clear hq0;repeat' (first|apply sK ()|apply sG ()|(apply O ();go_step)|(apply kc ();refine sc (c1 _ V) ?_;clear V;rintro v w ⟨rfl,V⟩)|(apply kc ();refine sc (c2 _ V) ?_;clear V;rintro v w ⟨rfl,V⟩)|apply sX ()|apply sP ()|(apply sI ();intro v L)|(apply sS ();clear V;intro w V)|(apply sA ();clear V;intro bk w V)|fail)
         go_ret;exact ⟨_,rfl,by rw [← HE.out,HF.out];rfl,V.sub⟩
        | true =>
         have hq:JM xs[i]=true:=hq0;clear hq0;repeat' (first|apply sK ()|apply sG ()|(apply O ();go_step)|(apply kc ();refine sc (c1 _ V) ?_;clear V;rintro v w ⟨rfl,V⟩)|(apply kc ();refine sc (c2 _ V) ?_;clear V;rintro v w ⟨rfl,V⟩)|apply sX ()|apply sP ()|(apply sI ();intro v L)|(apply sS ();clear V;intro w V)|(apply sA ();clear V;intro bk w V)|fail)
         apply Xa ()
      ·have hq0:=iA h;have c1:=fun {M} w (V:St S M w)=>cN w V xs[i].2.2.2.1 1 1024
       generalize decide (1≤xs[i].2.2.2.1∧xs[i].2.2.2.1≤1024)=z at *;have e1:(xs[i].2.1 == 1)=false:=by rw [h];rfl
       have e2:(xs[i].2.1 == 2)=false:=by rw [h];rfl
       have e4:(xs[i].2.1 == 4)=true:=by rw [h];rfl
       clear h cN
       cases z with
       | false =>
        have HF:=hno hq0;apply gZ ()
       | true =>
        have hq:=hq0;repeat' (first|apply sK ()|apply sG ()|(apply O ();go_step)|(apply kc ();refine sc (c1 _ V) ?_;clear V;rintro v w ⟨rfl,V⟩)|apply sX ()|apply sP ()|(apply sI ();intro v L)|(apply sS ();clear V;intro w V)|(apply sA ();clear V;intro bk w V)|fail)
        apply Xa ()
     ·have hq:=iz (x:=xs[i]) (by omega);have e1:(xs[i].2.1 == 1)=false:=by exact beq_eq_false_iff_ne.2 (by omega)
      have e2:(xs[i].2.1 == 2)=false:=by exact beq_eq_false_iff_ne.2 (by omega)
      have e4:(xs[i].2.1 == 4)=false:=by exact beq_eq_false_iff_ne.2 (by omega)
      clear h cN;repeat' (first|apply sK ()|apply sG ()|(apply O ();go_step)|apply sX ()|apply sP ()|(apply sI ();intro v L)|(apply sS ();clear V;intro w V)|(apply sA ();clear V;intro bk w V)|fail)
      apply Xa ()
    ·have HF:=HA.out;rw [List.take_of_length_le (by omega),HE.out] at HF;replace HF:=Lib.hid HF;repeat' (first|(apply O ();go_step)|apply sX ()|fail)
     go_ret;exact ⟨_,rfl,by rw [HF.out];rfl,V.sub⟩
theorem DG {a b} (ha:0≤a) (hb:0≤b):0≤C9 a b∧C9 a b≤3001:=by unfold C9;split<;>omega
theorem Hz {rec:Int→Int} (h:∀ o,0≤rec o):∀ (os:List Int) (n:Int),0≤n→n≤3001→0≤Dj rec os n∧Dj rec os n≤3001
 | [],n,h1,h2=>⟨h1,h2⟩
 | o::os,n,h1,h2=>by
  rw [Dj];have:=DG h1 (h o);exact Hz h os _ this.1 this.2
theorem OE {b:Int} (hb:0≤b):∀ (f:Nat) (n:Int),0≤n→n≤3001→0≤FP b f n∧FP b f n≤3001
 | 0,n,h1,h2=>⟨h1,h2⟩
 | f+1,n,h1,h2=>by
  rw [FP];split
  ·have:=DG h1 hb;exact OE hb f _ this.1 this.2
  ·exact ⟨h1,h2⟩
theorem D8 (ns:List Nd):∀ (f:Nat) (k:Int),0≤Bf ns f k∧Bf ns f k≤3001
 | 0,k=>⟨Int.le_refl _,by show (0:Int)≤3001;omega⟩
 | f+1,k=>by
  have i:=fun k=>D8 ns f k
  rw [Bf];simp only;split
  ·exact Hz (fun o=>(i o).1) _ _ (Int.le_refl _) (by omega)
  ·split
   ·have h0:=i (AU (Az ns k) 0);have h1:=i (AU (Az ns k) 1);have h2:=i (AU (Az ns k) 2);have h3:=DG h0.1 (show (0:Int)≤1 by omega);have h4:=DG h1.1 (show (0:Int)≤1 by omega);split
    ·split
     ·exact DG h3.1 h2.1
     ·exact DG h3.1 h4.1
    ·exact DG h3.1 h1.1
   ·split
    ·have h0:=i (AU (Az ns k) 0);have h3:=DG h0.1 (show (0:Int)≤1 by omega);exact OE h3.1 _ _ (by omega) (by omega)
    ·exact Hz (fun o=>(i o).1) _ _ (by omega) (by omega)
abbrev Pk (p:Pg) (f:Nat):Prop:=∀ {S M} (w:World) (si sn:Sv) (k:Nat),St S M w→Cm S si sn p→Cl p→k < p.2.1.length→k+1≤f →
  Ac prog 114 [Bo si sn p,.int .i64 (k:Int)] w fun v w'=>v=.int .i64 (Bf p.2.1 f k)∧St S M w'
theorem JE (rec:Int→Int):∀ (os:List Int) (n:Int) (o:Int),Dj rec (os++[o]) n=C9 (Dj rec os n) (rec o)
 | [],n,o=>rfl
 | x::os,n,o=>by rw [List.cons_append,Dj,Dj];exact JE rec os _ o
section
variable {S:Ad} {M:List J} {w:World} {si sn:Sv} {p:Pg} {f k:Nat}
theorem ZE (ih:Pk p f) (V:St S M w) (L:Cm S si sn p) (hw:Cl p) (hk:k < p.2.1.length) (hf:k+1≤f+1) (hv:(p.2.1[k]).1=17) :
  Ac prog 114 [Bo si sn p,.int .i64 (k:Int)] w fun v w'=>v=.int .i64 (Bf p.2.1 (f+1) k)∧St S M w':=by
 unfold Ac;obtain ⟨R,hR⟩:∃ R,Bf p.2.1 (f+1) k=R:=⟨_,rfl⟩
 rw [hR];rw [Bf,Be hk] at hR;simp only at hR;have hn:=L.n;have hi:=L.i;have hln:=L.ln;rw [if_pos hv] at hR;have hol:=L.lo _ (List.getElem_mem hk)
 have cC:∀ (i:Nat) (hi:i < (p.2.1[k]).2.2.2.1.length) {S':Ad} {M:List J} (w:World) (hS:S.Le S') (V:St S' M w),Ac prog 114 [Bo si sn p,.int .i64 ((p.2.1[k]).2.2.2.1[i])] w fun v w'=>v=.int .i64 (Bf p.2.1 f ((p.2.1[k]).2.2.2.1[i]))∧St S' M w':=fun i hi S' M w hS V=>by
  apply jq ()
 have e17:(p.2.1[k].1 == 17)=true:=by rw [hv];rfl
 have HR:=Lib.hid hR;have hb:=D8 p.2.1 f;generalize Bf p.2.1 f=rec at *;clear hR hv;go_enter func114,ntmps114;repeat' ((apply ZZ 1);first|(apply O ();go_step)|(apply sB ();clear V;intro bx w V)|fail)
 refine wp_region_lit ?_;repeat' (first|(apply O ();go_step)|apply sX ()|(apply sD ();intro cl hcl)|(apply sI ();intro v L)|(apply sA ();clear V;intro bk w V)|fail)
 obtain ⟨so,rfl,ho,hI1,hI2,hI3⟩:=A5 hcl;clear hcl;rw [show Z.agg Nd=true from rfl];apply nW ();repeat' ((apply ZZ 4);first|apply sK ()|(apply O ();go_step)|apply sX ()|(apply sS ();clear V;intro w V)|fail)
 repeat' (first|(apply O ();go_step)|fail)
 generalize hos:(p.2.1[k]).2.2.2.1=os at *;clear hos
 go_loopw [6,7] (fun u6 u7 wr=>∃ (i:Nat),i≤os.length∧u6=.int .i64 (Dj rec (os.take i) 0)∧u7=.int .i64 (i:Int)∧St S (.box bk [.int .i64 (p.2.1[k]).1,.int .i64 (p.2.1[k]).2.1,.string ⟨(p.2.1[k]).2.2.1.b.toArray⟩,.slice so.1 so.2.1 so.2.2] 139::.box bx [.slice si.1 si.2.1 si.2.2,.slice sn.1 sn.2.1 sn.2.2,.int .i64 p.2.2.1,.int .i64 p.2.2.2.1] 87::M) wr) (fun _ v _=>os.length - (intOf v).toNat)
 case atStart=>exact ⟨0,Nat.zero_le _,rfl,rfl,V⟩
 case round =>
  clear V;obtain ⟨i,hi2,rfl,rfl,V⟩:=hrel;by_cases hlt:i < os.length
  ·have hsn:=Lib.hid (show C9 (Dj rec (os.take i) 0) (rec os[i])=Dj rec (os.take (i+1)) 0 by rw [List.take_succ_eq_append_getElem hlt,JE]);have h1:=Hz (fun o=>(hb o).1) (os.take i) 0 (by omega) (by omega);have h2:=hb os[i];have cC2:=fun {S':Ad} {M:List J} (w:World) (hS:S.Le S') (V:St S' M w)=>cC i hlt w hS V
   generalize Dj rec (os.take i) 0=n at *;generalize rec os[i]=r at *;have cA:=fun {S':Ad} {M:List J} (w:World) (V:St S' M w)=>Fm w V n r (by omega) (by omega)
   generalize C9 n r=q at *;repeat' ((apply ZZ 8);first|(apply O ();go_step)|apply sX ()|fail)
   apply kp ()
  apply jJ ()
theorem Uu (ih:Pk p f) (V:St S M w) (L:Cm S si sn p) (hw:Cl p) (hk:k < p.2.1.length) (hf:k+1≤f+1) (hv:(p.2.1[k]).1≠17∧(p.2.1[k]).1≠12∧(p.2.1[k]).1≠13) :
  Ac prog 114 [Bo si sn p,.int .i64 (k:Int)] w fun v w'=>v=.int .i64 (Bf p.2.1 (f+1) k)∧St S M w':=by
 unfold Ac;obtain ⟨R,hR⟩:∃ R,Bf p.2.1 (f+1) k=R:=⟨_,rfl⟩
 rw [hR];rw [Bf,Be hk] at hR;simp only at hR;have hn:=L.n;have hi:=L.i;have hln:=L.ln;rw [if_neg hv.1,if_neg hv.2.1,if_neg hv.2.2] at hR;have hol:=L.lo _ (List.getElem_mem hk)
 have cC:∀ (i:Nat) (hi:i < (p.2.1[k]).2.2.2.1.length) {S':Ad} {M:List J} (w:World) (hS:S.Le S') (V:St S' M w),Ac prog 114 [Bo si sn p,.int .i64 ((p.2.1[k]).2.2.2.1[i])] w fun v w'=>v=.int .i64 (Bf p.2.1 f ((p.2.1[k]).2.2.2.1[i]))∧St S' M w':=fun i hi S' M w hS V=>by
  apply jq ()
 have e17:(p.2.1[k].1 == 17)=false:=beq_eq_false_iff_ne.2 (by omega);have e12:(p.2.1[k].1 == 12)=false:=beq_eq_false_iff_ne.2 (by omega);have e13:(p.2.1[k].1 == 13)=false:=beq_eq_false_iff_ne.2 (by omega);have HR:=Lib.hid hR;have hb:=D8 p.2.1 f;generalize Bf p.2.1 f=rec at *;clear hR hv;go_enter func114,ntmps114;repeat' ((apply ZZ 1);first|(apply O ();go_step)|(apply sB ();clear V;intro bx w V)|fail)
 refine wp_region_lit ?_;repeat' (first|(apply O ();go_step)|apply sX ()|(apply sD ();intro cl hcl)|(apply sI ();intro v L)|(apply sA ();clear V;intro bk w V)|fail)
 obtain ⟨so,rfl,ho,hI1,hI2,hI3⟩:=A5 hcl;clear hcl;rw [show Z.agg Nd=true from rfl];apply nW ();repeat' ((apply ZZ 26);first|apply sK ()|(apply O ();go_step)|apply sX ()|(apply sS ();clear V;intro w V)|fail)
 repeat' (first|(apply O ();go_step)|fail)
 generalize hos:(p.2.1[k]).2.2.2.1=os at *;clear hos
 go_loopw [13,14] (fun u6 u7 wr=>∃ (i:Nat),i≤os.length∧u6=.int .i64 (Dj rec (os.take i) 1)∧u7=.int .i64 (i:Int)∧St S (.box bk [.int .i64 (p.2.1[k]).1,.int .i64 (p.2.1[k]).2.1,.string ⟨(p.2.1[k]).2.2.1.b.toArray⟩,.slice so.1 so.2.1 so.2.2] 139::.box bx [.slice si.1 si.2.1 si.2.2,.slice sn.1 sn.2.1 sn.2.2,.int .i64 p.2.2.1,.int .i64 p.2.2.2.1] 87::M) wr) (fun _ v _=>os.length - (intOf v).toNat)
 case atStart=>exact ⟨0,Nat.zero_le _,rfl,rfl,V⟩
 case round =>
  clear V;obtain ⟨i,hi2,rfl,rfl,V⟩:=hrel;by_cases hlt:i < os.length
  ·have hsn:=Lib.hid (show C9 (Dj rec (os.take i) 1) (rec os[i])=Dj rec (os.take (i+1)) 1 by rw [List.take_succ_eq_append_getElem hlt,JE]);have h1:=Hz (fun o=>(hb o).1) (os.take i) 1 (by omega) (by omega);have h2:=hb os[i];have cC2:=fun {S':Ad} {M:List J} (w:World) (hS:S.Le S') (V:St S' M w)=>cC i hlt w hS V
   generalize Dj rec (os.take i) 1=n at *;generalize rec os[i]=r at *;have cA:=fun {S':Ad} {M:List J} (w:World) (V:St S' M w)=>Fm w V n r (by omega) (by omega)
   generalize C9 n r=q at *;repeat' ((apply ZZ 30);first|(apply O ();go_step)|apply sX ()|fail)
   apply kp ()
  apply jJ ()
theorem g6 {p} (hw:Cl p) {k} (hk:k < p.2.1.length) (h:(p.2.1[k]).1=13):(p.2.1[k]).2.2.2.1.length=1:=by
 have:=LR hw hk;unfold EW at this;rw [if_neg (by omega),if_neg (by omega),if_neg (by omega),if_pos h] at this;exact this.symm
theorem ZB (ih:Pk p f) (V:St S M w) (L:Cm S si sn p) (hw:Cl p) (hk:k < p.2.1.length) (hf:k+1≤f+1) (hv:(p.2.1[k]).1=13) :
  Ac prog 114 [Bo si sn p,.int .i64 (k:Int)] w fun v w'=>v=.int .i64 (Bf p.2.1 (f+1) k)∧St S M w':=by
 unfold Ac;obtain ⟨R,hR⟩:∃ R,Bf p.2.1 (f+1) k=R:=⟨_,rfl⟩
 rw [hR];rw [Bf,Be hk] at hR;simp only at hR;have hn:=L.n;have hi:=L.i;have hln:=L.ln;rw [if_neg (by omega),if_neg (by omega),if_pos hv] at hR;have hl:=g6 hw hk hv;have hl0:0 < (p.2.1[k]).2.2.2.1.length:=by omega
 obtain ⟨o0,a0,b0,d0⟩:=Ch hw hk hl0;have hc0:=D8 p.2.1 f (AU (p.2.1[k]) 0);have cT0:∀ {S':Ad} {M:List J} (w:World) (hS:S.Le S') (V:St S' M w),Ac prog 114 [Bo si sn p,.int .i64 ((p.2.1[k]).2.2.2.1[0])] w fun v w'=>v=.int .i64 (Bf p.2.1 f (AU (p.2.1[k]) 0))∧St S' M w':=fun w hS V=>by rw [b0,d0];exact ih w si sn o0 V (L.mono hS) hw (by omega) (by omega)
 generalize Bf p.2.1 f (AU (p.2.1[k]) 0)=t0 at *;have e17:(p.2.1[k].1 == 17)=false:=beq_eq_false_iff_ne.2 (by omega);have e12:(p.2.1[k].1 == 12)=false:=beq_eq_false_iff_ne.2 (by omega);have e13:(p.2.1[k].1 == 13)=true:=by rw [hv];rfl
 obtain ⟨r0,Q0⟩:∃ r,C9 t0 1=r:=⟨_,rfl⟩
 have c0:=fun {S':Ad} {M:List J} (w:World) (V:St S' M w)=>Fm w V t0 1 (by omega) (by omega)
 have q0:=DG (a:=t0) (b:=1) (by omega) (by omega);rw [Q0] at c0 q0 hR;replace Q0:=Lib.hid Q0;have HR:=Lib.hid hR;clear hR hv b0 d0 hl hw;go_enter func114,ntmps114;repeat' ((apply ZZ 1);first|(apply O ();go_step)|(apply sB ();clear V;intro bx w V)|fail)
 refine wp_region_lit ?_;repeat' (first|(apply O ();go_step)|apply sX ()|(apply sD ();intro cl hcl)|(apply sI ();intro v L)|(apply sA ();clear V;intro bk w V)|fail)
 obtain ⟨so,rfl,ho,hI1,hI2,hI3⟩:=A5 hcl;clear hcl;rw [show Z.agg Nd=true from rfl];apply nW ();repeat' ((apply ZZ 19);first|apply sK ()|(apply O ();go_step)|apply sX ()|(apply sS ();clear V;intro w V)|fail)
 repeat' ((apply ZZ 20);first|(apply O ();go_step)|fail)
 refine AD V kr ?_;clear V;intro ops;apply nW ();refine td 0 rfl ?_;refine td 1 rfl ?_;refine td 2 rfl ?_;refine tx 3 rfl (Aq X Ak rfl Y Y Af Af) ?_;rintro v L;replace L:=iN L;refine tx 4 rfl (Am X Ak Y) ?_;rintro v ⟨rfl,hI⟩;(refine AQ 5 rfl kr rfl (fun S' M' w hS hM V=>cT0 w hS V) Y rfl ?_)<;>apply nW ()
 (refine AQ 6 rfl kr rfl (fun S' M' w hS hM V=>c0 w V) Y rfl ?_)<;>apply nW ()
 refine td 7 rfl ?_;refine AJ kr ?_;clear ops;intro w V;have hr0:1≤r0:=by rw [← Q0.out];unfold C9;split<;>omega
 generalize hN:(p.2.1[k]).2.1=Nqq at *;clear hN;repeat' (first|(apply O ();go_step)|fail)
 go_loopw [10,12] (fun u10 u12 wr=>∃ (i m:Nat) (n:Int),u10=.int .i64 n∧u12=.int .i64 (i:Int)∧(0≤n∧n≤3001∧i≤n)∧Hid (FP r0 m n=R)∧(Nqq≤i+m∧(m≤0∨i+m≤Nqq))∧St S (.box bk [.int .i64 (p.2.1[k]).1,.int .i64 Nqq,.string ⟨(p.2.1[k]).2.2.1.b.toArray⟩,.slice so.1 so.2.1 so.2.2] 139::.box bx [.slice si.1 si.2.1 si.2.2,.slice sn.1 sn.2.1 sn.2.2,.int .i64 p.2.2.1,.int .i64 p.2.2.2.1] 87::M) wr) (fun v _ _=>3001 - (intOf v).toNat)
 case atStart=>exact ⟨0,Nqq.toNat,2,rfl,rfl,by omega,HR,by omega,V⟩
 case round =>
  clear V HR;obtain ⟨i,m,n,rfl,rfl,hb,HR,hm,V⟩:=hrel;by_cases h3:n < 3001
  ·by_cases hlt:(i:Int) < Nqq
   ·obtain ⟨m,rfl⟩:∃ m',m=m'+1:=⟨m - 1,by omega⟩
    have HN:=HR.out;rw [FP,if_pos h3] at HN;have cA:=fun {S':Ad} {M:List J} (w:World) (V:St S' M w)=>Fm w V n r0 (by omega) (by omega)
    have qA:=DG (a:=n) (b:=r0) (by omega) (by omega);have qB:n < C9 n r0:=by unfold C9;split<;>omega
    generalize C9 n r0=q at *;replace HN:=Lib.hid HN;clear HR;repeat' (first|apply sG ()|(apply O ();go_step)|(apply kc ();refine sc (cA _ V) ?_;clear V;rintro v w ⟨rfl,V⟩)|apply sX ()|fail)
    go_roundw
    case rel=>exact ⟨i+1,m,q,rfl,by go_num,by omega,HN,by omega,V⟩
    case measure=>simp [intOf];omega
   ·have HN:=HR.out;obtain rfl:m=0:=by omega
    rw [FP] at HN;replace HN:=Lib.hid HN;clear HR;repeat' (first|apply sG ()|(apply O ();go_step)|apply sX ()|fail)
    go_ret;exact ⟨_,rfl,by rw [← HN.out];rfl,V.sub⟩
  ·have HN:FP r0 m n=n:=by
    cases m with
    | zero=>rfl
    | succ m=>rw [FP,if_neg h3]
   rw [HR.out] at HN;replace HN:=Lib.hid HN;clear HR;by_cases hlt:(i:Int) < Nqq
   ·repeat' (first|apply sG ()|(apply O ();go_step)|apply sX ()|fail)
    go_ret;exact ⟨_,rfl,by rw [HN.out];rfl,V.sub⟩
   ·repeat' (first|apply sG ()|(apply O ();go_step)|apply sX ()|fail)
    go_ret;exact ⟨_,rfl,by rw [HN.out];rfl,V.sub⟩
theorem ZD (ih:Pk p f) (V:St S M w) (L:Cm S si sn p) (hw:Cl p) (hk:k < p.2.1.length) (hf:k+1≤f+1) (hv:(p.2.1[k]).1=12) (hv3:¬ (p.2.1[k]).2.2.2.1.length=3) :
  Ac prog 114 [Bo si sn p,.int .i64 (k:Int)] w fun v w'=>v=.int .i64 (Bf p.2.1 (f+1) k)∧St S M w':=by
 unfold Ac;obtain ⟨R,hR⟩:∃ R,Bf p.2.1 (f+1) k=R:=⟨_,rfl⟩
 rw [hR];rw [Bf,Be hk] at hR;simp only at hR;have hn:=L.n;have hi:=L.i;have hln:=L.ln;rw [if_neg (by omega),if_pos hv] at hR;rw [if_neg hv3] at hR;have hl:=NO hw hk hv;have hl0:0 < (p.2.1[k]).2.2.2.1.length:=by omega
 obtain ⟨o0,a0,b0,d0⟩:=Ch hw hk hl0;have hc0:=D8 p.2.1 f (AU (p.2.1[k]) 0);have cT0:∀ {S':Ad} {M:List J} (w:World) (hS:S.Le S') (V:St S' M w),Ac prog 114 [Bo si sn p,.int .i64 ((p.2.1[k]).2.2.2.1[0])] w fun v w'=>v=.int .i64 (Bf p.2.1 f (AU (p.2.1[k]) 0))∧St S' M w':=fun w hS V=>by rw [b0,d0];exact ih w si sn o0 V (L.mono hS) hw (by omega) (by omega)
 generalize Bf p.2.1 f (AU (p.2.1[k]) 0)=t0 at *;have hl1:1 < (p.2.1[k]).2.2.2.1.length:=by omega
 obtain ⟨o1,a1,b1,d1⟩:=Ch hw hk hl1;have hc1:=D8 p.2.1 f (AU (p.2.1[k]) 1);have cT1:∀ {S':Ad} {M:List J} (w:World) (hS:S.Le S') (V:St S' M w),Ac prog 114 [Bo si sn p,.int .i64 ((p.2.1[k]).2.2.2.1[1])] w fun v w'=>v=.int .i64 (Bf p.2.1 f (AU (p.2.1[k]) 1))∧St S' M w':=fun w hS V=>by rw [b1,d1];exact ih w si sn o1 V (L.mono hS) hw (by omega) (by omega)
 generalize Bf p.2.1 f (AU (p.2.1[k]) 1)=t1 at *;have e17:(p.2.1[k].1 == 17)=false:=beq_eq_false_iff_ne.2 (by omega);have e12:(p.2.1[k].1 == 12)=true:=by rw [hv];rfl
 have e3:(((p.2.1[k]).2.2.2.1.length:Int) == 3)=false:=beq_eq_false_iff_ne.2 (by omega);have c0:=fun {S':Ad} {M:List J} (w:World) (V:St S' M w)=>Fm w V t0 1 (by omega) (by omega)
 have q0:=DG (a:=t0) (b:=1) (by omega) (by omega);generalize C9 t0 1=r0 at *;have c2:=fun {S':Ad} {M:List J} (w:World) (V:St S' M w)=>Fm w V r0 t1 (by omega) (by omega)
 rw [hR] at c2;clear hR hv hv3 b0 d0 b1 d1 hl hw;go_enter func114,ntmps114;repeat' ((apply ZZ 1);first|(apply O ();go_step)|(apply sB ();clear V;intro bx w V)|fail)
 refine wp_region_lit ?_;repeat' (first|(apply O ();go_step)|apply sX ()|(apply sD ();intro cl hcl)|(apply sI ();intro v L)|(apply sA ();clear V;intro bk w V)|fail)
 obtain ⟨so,rfl,ho,hI1,hI2,hI3⟩:=A5 hcl;clear hcl;rw [show Z.agg Nd=true from rfl];apply nW ();repeat' ((apply ZZ 11);first|apply sK ()|(apply O ();go_step)|apply sX ()|(apply sS ();clear V;intro w V)|fail)
 refine AD V kr ?_;clear V;intro ops;apply nW ();refine td 0 rfl ?_;refine td 1 rfl ?_;refine td 2 rfl ?_;refine tx 3 rfl (Aq X Ak rfl Y Y Af Af) ?_;rintro v L;replace L:=iN L;refine tx 4 rfl (Am X Ak Y) ?_;rintro v ⟨rfl,hI⟩;(refine AQ 5 rfl kr rfl (fun S' M' w hS hM V=>cT1 w hS V) Y rfl ?_)<;>apply nW ()
 refine td 6 rfl ?_;refine AJ kr ?_;clear ops;intro w V;repeat' ((apply ZZ 17);first|apply sK ()|(apply O ();go_step)|apply sX ()|fail)
 refine AD V kr ?_;clear V;intro ops;apply nW ();refine td 0 rfl ?_;refine td 1 rfl ?_;refine td 2 rfl ?_;refine tx 3 rfl (Aq X Ak rfl Y Y Af Af) ?_;rintro v L;replace L:=iN L;refine tx 4 rfl (Am X Ak Y) ?_;rintro v ⟨rfl,hI⟩;(refine AQ 5 rfl kr rfl (fun S' M' w hS hM V=>cT0 w hS V) Y rfl ?_)<;>apply nW ()
 (refine AQ 6 rfl kr rfl (fun S' M' w hS hM V=>c0 w V) Y rfl ?_)<;>apply nW ()
 refine td 7 rfl ?_;(refine AQ 8 rfl kr rfl (fun S' M' w hS hM V=>c2 w V) Y rfl ?_)<;>apply nW ()
 refine td 9 rfl ?_;apply jZ ()
theorem ZC (ih:Pk p f) (V:St S M w) (L:Cm S si sn p) (hw:Cl p) (hk:k < p.2.1.length) (hf:k+1≤f+1) (hv:(p.2.1[k]).1=12) (hv3:(p.2.1[k]).2.2.2.1.length=3) :
  Ac prog 114 [Bo si sn p,.int .i64 (k:Int)] w fun v w'=>v=.int .i64 (Bf p.2.1 (f+1) k)∧St S M w':=by
 unfold Ac;obtain ⟨R,hR⟩:∃ R,Bf p.2.1 (f+1) k=R:=⟨_,rfl⟩
 rw [hR];rw [Bf,Be hk] at hR;simp only at hR;have hn:=L.n;have hi:=L.i;have hln:=L.ln;rw [if_neg (by omega),if_pos hv] at hR;rw [if_pos hv3] at hR;have hl:=NO hw hk hv;have hl0:0 < (p.2.1[k]).2.2.2.1.length:=by omega
 obtain ⟨o0,a0,b0,d0⟩:=Ch hw hk hl0;have hc0:=D8 p.2.1 f (AU (p.2.1[k]) 0);have cT0:∀ {S':Ad} {M:List J} (w:World) (hS:S.Le S') (V:St S' M w),Ac prog 114 [Bo si sn p,.int .i64 ((p.2.1[k]).2.2.2.1[0])] w fun v w'=>v=.int .i64 (Bf p.2.1 f (AU (p.2.1[k]) 0))∧St S' M w':=fun w hS V=>by rw [b0,d0];exact ih w si sn o0 V (L.mono hS) hw (by omega) (by omega)
 generalize Bf p.2.1 f (AU (p.2.1[k]) 0)=t0 at *;have hl1:1 < (p.2.1[k]).2.2.2.1.length:=by omega
 obtain ⟨o1,a1,b1,d1⟩:=Ch hw hk hl1;have hc1:=D8 p.2.1 f (AU (p.2.1[k]) 1);have cT1:∀ {S':Ad} {M:List J} (w:World) (hS:S.Le S') (V:St S' M w),Ac prog 114 [Bo si sn p,.int .i64 ((p.2.1[k]).2.2.2.1[1])] w fun v w'=>v=.int .i64 (Bf p.2.1 f (AU (p.2.1[k]) 1))∧St S' M w':=fun w hS V=>by rw [b1,d1];exact ih w si sn o1 V (L.mono hS) hw (by omega) (by omega)
 generalize Bf p.2.1 f (AU (p.2.1[k]) 1)=t1 at *;have hl2:2 < (p.2.1[k]).2.2.2.1.length:=by omega
 obtain ⟨o2,a2,b2,d2⟩:=Ch hw hk hl2;have hc2:=D8 p.2.1 f (AU (p.2.1[k]) 2);have cT2:∀ {S':Ad} {M:List J} (w:World) (hS:S.Le S') (V:St S' M w),Ac prog 114 [Bo si sn p,.int .i64 ((p.2.1[k]).2.2.2.1[2])] w fun v w'=>v=.int .i64 (Bf p.2.1 f (AU (p.2.1[k]) 2))∧St S' M w':=fun w hS V=>by rw [b2,d2];exact ih w si sn o2 V (L.mono hS) hw (by omega) (by omega)
 generalize Bf p.2.1 f (AU (p.2.1[k]) 2)=t2 at *;have e17:(p.2.1[k].1 == 17)=false:=beq_eq_false_iff_ne.2 (by omega);have e12:(p.2.1[k].1 == 12)=true:=by rw [hv];rfl
 have e3:(((p.2.1[k]).2.2.2.1.length:Int) == 3)=true:=by rw [hv3];rfl
 have c0:=fun {S':Ad} {M:List J} (w:World) (V:St S' M w)=>Fm w V t0 1 (by omega) (by omega)
 have q0:=DG (a:=t0) (b:=1) (by omega) (by omega);generalize C9 t0 1=r0 at *;have c1:=fun {S':Ad} {M:List J} (w:World) (V:St S' M w)=>Fm w V t1 1 (by omega) (by omega)
 have q1:=DG (a:=t1) (b:=1) (by omega) (by omega);generalize C9 t1 1=r1 at *;obtain ⟨s,hs⟩:∃ s,(if t2 > r1 then t2 else r1)=s:=⟨_,rfl⟩
 rw [hs] at hR;have hs2:0≤s∧s≤3001:=by rw [← hs];split<;>omega
 have c2:=fun {S':Ad} {M:List J} (w:World) (V:St S' M w)=>Fm w V r0 s (by omega) (by omega)
 rw [hR] at c2;have HS:=Lib.hid hs;clear hR hs hv hv3 b0 d0 b1 d1 b2 d2 hl hw;by_cases h9:t2 > r1
 ·obtain rfl:s=t2:=by rw [← HS.out,if_pos h9]
  go_enter func114,ntmps114;apply kE ()
 ·obtain rfl:s=r1:=by rw [← HS.out,if_neg h9]
  go_enter func114,ntmps114;apply kE ()
theorem WP (p f) (ih:Pk p f):Pk p (f+1):=fun w si sn k V L hw hk hf=>by
 by_cases h1:(p.2.1[k]).1=17
 ·exact ZE ih V L hw hk hf h1
 ·by_cases h2:(p.2.1[k]).1=12
  ·by_cases h3:(p.2.1[k]).2.2.2.1.length=3
   ·exact ZC ih V L hw hk hf h2 h3
   ·exact ZD ih V L hw hk hf h2 h3
  ·by_cases h3:(p.2.1[k]).1=13
   ·exact ZB ih V L hw hk hf h3
   ·exact Uu ih V L hw hk hf ⟨h1,h2,h3⟩
theorem WQ (p:Pg):∀ f,Pk p f
 | 0=>fun w si sn k _ _ _ _ hf=>absurd hf (by omega)
 | f+1=>WP p f (WQ p f)
end
def OF (i:Ip):Int:=if i.2.1=1∨i.2.1=3 then 2 else i.2.2.2.1
theorem Mn (p):Gv p=p.1.map OF:=rfl
theorem gc {S v} {xs:List Ip} (h:RSl S v xs) {i} (hi:i < xs.length):Au xs[i].2.2.2.1:=by
 rcases h with ⟨ad,cap,rfl,rfl,_⟩|⟨b,o,cap,c,T,fz,rfl,_,_,_,hR⟩
 ·simp at hi
 ·have h:=hR.2 i xs[i] (List.getElem?_eq_getElem hi);exact h.2.2.2.2.2.2.2.1.2
theorem aZ {S M} (w) (V:St S M w) (si sn p) (L:Cm S si sn p):
  Ac prog 71 [Bo si sn p] w (Jr S M (Gv p)):=by
 unfold Ac;have hi:=L.i;have hli:=L.li;obtain ⟨R,hR⟩:∃ R,Gv p=R:=⟨_,rfl⟩
 rw [hR];rw [Mn] at hR;have HR:=Lib.hid hR;clear hR L;generalize hxs:p.1=xs at HR hi hli;clear hxs;go_enter func71,ntmps71;replace V:=V.nil 3 1;repeat' (first|(apply O ();go_step)|(apply sB ();clear V;intro bx w V)|fail)
 go_loopw [3,4] (fun u3 u4 wr=>∃ (i:Nat) (so:Sv) (co:List Value),i≤xs.length∧u3=Ar so∧u4=.int .i64 (i:Int)∧RL S co ((xs.take i).map OF)∧St S (.box bx [.slice si.1 si.2.1 si.2.2,.slice sn.1 sn.2.1 sn.2.2,.int .i64 p.2.2.1,.int .i64 p.2.2.2.1] 87::.sl (Ar so) 3 1 i co::M) wr) (fun _ v _=>xs.length - (intOf v).toNat)
 case atStart=>exact ⟨0,(none,0,0),[],Nat.zero_le _,rfl,rfl,RL.nil,V⟩
 case round =>
  clear V;obtain ⟨i,so,co,hi2,rfl,rfl,hC,V⟩:=hrel;have hone:=BE (k:=1) V rfl;by_cases hlt:i < xs.length
  ·have hI:=gc hi hlt;have hsn:Hid ((xs.take (i+1)).map OF=(xs.take i).map OF++[OF xs[i]]):=Lib.hid (by rw [List.take_succ_eq_append_getElem hlt,List.map_append];rfl);by_cases h:xs[i].2.1=1∨xs[i].2.1=3
   ·have hs:Hid (OF xs[i]=2):=Lib.hid (if_pos h);obtain ⟨z1,hz1⟩:∃ z,(xs[i].2.1 == 1)=z:=⟨_,rfl⟩
    obtain ⟨z2,hz2⟩:∃ z,(xs[i].2.1 == 3)=z:=⟨_,rfl⟩
    have hc:z1=true∨(z1=false∧z2=true):=by
     rcases h with h|h
     ·left;rw [← hz1,h];rfl
     ·right;exact ⟨by rw [← hz1,h];rfl,by rw [← hz2,h];rfl⟩
    clear h;rcases hc with rfl|⟨rfl,rfl⟩
    all_goals
     repeat' (first|apply sK ()|apply sG ()|(apply O ();go_step)|apply sX ()|(apply sN ();intro hI)|(apply sI ();intro v L)|fail)
     refine Ay (vs:=[(.int .i64 2)]) V Y Y rfl rfl (by simp [Value.cells]) rfl (by omega) (by omega) ?_;clear V;intro u w V;refine nX ?_;refine AF (j:=0) V X X SlIn.h rfl Y Y Y (by simp [Value.cells,Value.oneCell']) (by omega) (by omega) (by decide) ?_;clear V;intro v' w V;refine nX ?_;(try replace V:=nH V);replace V:=V.drop;obtain ⟨ay,cy,rfl⟩:=Go.Sl.sl_formk (k:=1) V rfl;apply nW ();repeat' (first|(apply O ();go_step)|fail)
     go_roundw
     case rel=>exact ⟨i+1,(ay,i+1,cy),co++[.int .i64 2],by omega,rfl,by go_num,by rw [hsn.out,hs.out];exact hC.append (Cw (Ah (by decide))),V⟩
     case measure=>simp [intOf];omega
   ·have hs:Hid (OF xs[i]=xs[i].2.2.2.1):=Lib.hid (if_neg h);have hz1:(xs[i].2.1 == 1)=false:=beq_eq_false_iff_ne.2 (by omega);have hz2:(xs[i].2.1 == 3)=false:=beq_eq_false_iff_ne.2 (by omega);clear h;repeat' (first|apply sK ()|apply sG ()|(apply O ();go_step)|apply sX ()|(apply sN ();intro hI)|(apply sI ();intro v L)|fail)
    refine Ay (vs:=[(.int .i64 xs[i].2.2.2.1)]) V Y Y rfl rfl (by simp [Value.cells]) rfl (by omega) (by omega) ?_;clear V;intro u w V;refine nX ?_;refine AF (j:=0) V X X SlIn.h rfl Y Y Y (by simp [Value.cells,Value.oneCell']) (by omega) (by omega) (by decide) ?_;clear V;intro v' w V;refine nX ?_;(try replace V:=nH V);replace V:=V.drop;obtain ⟨ay,cy,rfl⟩:=Go.Sl.sl_formk (k:=1) V rfl;apply nW ();repeat' (first|(apply O ();go_step)|fail)
    go_roundw
    case rel=>exact ⟨i+1,(ay,i+1,cy),co++[.int .i64 xs[i].2.2.2.1],by omega,rfl,by go_num,by rw [hsn.out,hs.out];exact hC.append (Cw hI),V⟩
    case measure=>simp [intOf];omega
  ·obtain rfl:i=xs.length:=by omega
   rw [List.take_length,HR.out] at hC;have hl:Hid (xs.length=R.length):=Lib.hid (by rw [← HR.out,List.length_map]);clear HR;repeat' (first|(apply O ();go_step)|apply sX ()|fail)
   replace V:=V.drop;obtain ⟨S2,so2,hS2,e2,hx,hst2⟩:=Ex V hC hl.out;clear V;have V:=hst2;clear hst2;go_ret;exact ⟨_,rfl,S2,so2,hS2,e2,hx,V⟩
end Go.Proofs.YtmmbidoldegemaaGreatDoor
