/- Part 39 of a proof; no conditions. -/
import Derived.Test.YtmmbidoldegemaaGreatDoorZ37
set_option linter.all false
set_option maxRecDepth 8000
set_option maxHeartbeats 8000000
namespace Go.Proofs.YtmmbidoldegemaaGreatDoor
open Go.RowKit Go.Sl Go.Proofs.Tryz
def Kw (x:Nd):Bool:=!(decide (x.1=1∧¬ (0≤x.2.1∧x.2.1≤65535)) || decide (x.1=13∧¬ (1≤x.2.1∧x.2.1≤8)) || decide (x.1=15∧¬ (1≤x.2.1∧x.2.1≤255)))
def JM (x:Ip):Bool:=!(decide (x.2.1=1∧¬ (0≤x.2.2.1∧x.2.2.1≤7)) || decide (x.2.1=2∧(¬ (0≤x.2.2.1∧x.2.2.1≤3)∨¬ (1≤x.2.2.2.1∧x.2.2.2.1≤17))) || decide (x.2.1=4∧¬ (1≤x.2.2.2.1∧x.2.2.2.1≤1024)))
theorem bL (p):G3 p=(p.2.1.all Kw && p.1.all JM):=rfl
theorem iy {x} (h:x.1=1):Kw x=decide (0≤x.2.1∧x.2.1≤65535):=by unfold Kw;rw [Bool.eq_iff_iff];simp [h]
theorem fd {x} (h:x.1=13):Kw x=decide (1≤x.2.1∧x.2.1≤8):=by unfold Kw;rw [Bool.eq_iff_iff];simp [h]
theorem fc {x} (h:x.1=15):Kw x=decide (1≤x.2.1∧x.2.1≤255):=by unfold Kw;rw [Bool.eq_iff_iff];simp [h]
theorem iw {x} (h:x.1≠1∧x.1≠13∧x.1≠15):Kw x=true:=by unfold Kw;simp [h.1,h.2.1,h.2.2]
theorem iC {x} (h:x.2.1=1):JM x=decide (0≤x.2.2.1∧x.2.2.1≤7):=by unfold JM;rw [Bool.eq_iff_iff];simp [h]
theorem iB {x} (h:x.2.1=2):JM x=(decide (0≤x.2.2.1∧x.2.2.1≤3) && decide (1≤x.2.2.2.1∧x.2.2.2.1≤17)):=by
 unfold JM;rw [Bool.eq_iff_iff];simp [h]
theorem iA {x} (h:x.2.1=4):JM x=decide (1≤x.2.2.2.1∧x.2.2.2.1≤1024):=by unfold JM;rw [Bool.eq_iff_iff];simp [h]
theorem iz {x} (h:x.2.1≠1∧x.2.1≠2∧x.2.1≠4):JM x=true:=by unfold JM;simp [h.1,h.2.1,h.2.2]
theorem MK {α:Type} (q) (xs:List α) {i} (h):(xs.take (i+1)).all q=((xs.take i).all q && q xs[i]):=by
 rw [List.take_succ_eq_append_getElem h,List.all_append];simp
theorem Q4 {α:Type} {q} {xs:List α} {i:Nat} (h) (hq:q xs[i]=false):xs.all q=false:=by
 rw [List.all_eq_false];exact ⟨xs[i],List.getElem_mem h,by rw [hq];decide⟩
theorem Yy {S M} (w) (V:St S M w) (si sn p) (L:Cm S si sn p):
  Ac prog 69 [Bo si sn p] w fun v w'=>v=.bool (G3 p)∧St S M w':=by
 unfold Ac;have hn:=L.n;have hi:=L.i;have hln:=L.ln;have hli:=L.li;obtain ⟨R,hR⟩:∃ R,G3 p=R:=⟨_,rfl⟩
 rw [hR];rw [bL] at hR;have HR:=Lib.hid hR;clear hR L;generalize hxs:p.1=xs at HR hi hli;generalize hns:p.2.1=ns at HR hn hln;clear hxs hns;have cN:=fun {M} w (V:St S M w) (n a b:Int)=>gg w V n a b
 go_enter func69,ntmps69;repeat' (first|(apply O ();go_step)|(apply sB ();clear V;intro bx w V)|fail)
 go_loopw [3,4] (fun u3 _ wr=>∃ (i:Nat),i≤ns.length∧u3=.int .i64 (i:Int)∧Hid ((ns.take i).all Kw=true)∧St S (.box bx [.slice si.1 si.2.1 si.2.2,.slice sn.1 sn.2.1 sn.2.2,.int .i64 p.2.2.1,.int .i64 p.2.2.2.1] 87::M) wr) (fun v _ _=>ns.length - (intOf v).toNat)
 case atStart=>exact ⟨0,Nat.zero_le _,rfl,Lib.hid rfl,V⟩
 case round =>
  clear V;obtain ⟨i,hi2,rfl,HA,V⟩:=hrel;by_cases hlt:i < ns.length
  ·have hnx:=Lib.hid (MK Kw ns hlt);have hno:=fun h=>Lib.hid (Q4 (q:=Kw) hlt h)
   obtain ⟨Xqq,hX⟩:∃ Xqq,ns[i]=Xqq:=⟨_,rfl⟩
   rw [hX] at hnx hno;repeat' ((apply ZZ 4);first|(apply O ();go_step)|apply sX ()|fail)
   refine wp_region_lit ?_;repeat' (first|(apply O ();go_step)|apply sX ()|(apply sD ();intro cl hcl)|(apply sI ();intro v L)|(apply sA ();clear V;intro bk w V)|fail)
   rw [hX] at hcl;clear hX;obtain ⟨so,rfl,ho,hI1,hI2,hI3⟩:=A5 hcl;clear hcl;rw [show Z.agg Nd=true from rfl];apply nW ();by_cases h:Xqq.1=1∨Xqq.1=13∨Xqq.1=15
   ·rcases h with h|h|h
    ·have hq0:=iy h;have c1:=fun {M} w (V:St S M w)=>cN w V Xqq.2.1 0 65535
     generalize decide (0≤Xqq.2.1∧Xqq.2.1≤65535)=z at *;have e1:(Xqq.1 == 1)=true:=by rw [h];rfl
     have e13:(Xqq.1 == 13)=false:=by rw [h];rfl
     have e15:(Xqq.1 == 15)=false:=by rw [h];rfl
     apply g5 ()
    ·have hq0:=fd h;have c1:=fun {M} w (V:St S M w)=>cN w V Xqq.2.1 1 8
     generalize decide (1≤Xqq.2.1∧Xqq.2.1≤8)=z at *;have e1:(Xqq.1 == 1)=false:=by rw [h];rfl
     have e13:(Xqq.1 == 13)=true:=by rw [h];rfl
     have e15:(Xqq.1 == 15)=false:=by rw [h];rfl
     apply g5 ()
    ·have hq0:=fc h;have c1:=fun {M} w (V:St S M w)=>cN w V Xqq.2.1 1 255
     generalize decide (1≤Xqq.2.1∧Xqq.2.1≤255)=z at *;have e1:(Xqq.1 == 1)=false:=by rw [h];rfl
     have e13:(Xqq.1 == 13)=false:=by rw [h];rfl
     have e15:(Xqq.1 == 15)=true:=by rw [h];rfl
     apply g5 ()
   ·have hq:=iw (x:=Xqq) (by omega);have e1:(Xqq.1 == 1)=false:=by exact beq_eq_false_iff_ne.2 (by omega)
    have e13:(Xqq.1 == 13)=false:=by exact beq_eq_false_iff_ne.2 (by omega)
    have e15:(Xqq.1 == 15)=false:=by exact beq_eq_false_iff_ne.2 (by omega)
    clear h cN;repeat' (first|apply sK ()|apply sG ()|(apply O ();go_step)|apply sX ()|(apply sS ();clear V;intro w V)|fail)
    apply Xa ()
  ·have HF:=HA.out;rw [List.take_of_length_le (by omega)] at HF;have HE:=HR.out;rw [HF,Bool.true_and] at HE;replace HE:=Lib.hid HE;clear HR HF HA;repeat' (first|(apply O ();go_step)|apply sX ()|fail)
   go_loopw [5,6] (fun u5 _ wr=>∃ (i:Nat),i≤xs.length∧u5=.int .i64 (i:Int)∧Hid ((xs.take i).all JM=true)∧St S (.box bx [.slice si.1 si.2.1 si.2.2,.slice sn.1 sn.2.1 sn.2.2,.int .i64 p.2.2.1,.int .i64 p.2.2.2.1] 87::M) wr) (fun v _ _=>xs.length - (intOf v).toNat)
   case atStart=>exact ⟨0,Nat.zero_le _,rfl,Lib.hid rfl,V⟩
   case round =>
    clear V;rename_i i0 hlt0;obtain ⟨i,hi3,rfl,HA,V⟩:=hrel;by_cases hlt:i < xs.length
    ·have hnx:=Lib.hid (MK JM xs hlt);have hno:=fun h=>Lib.hid (Q4 (q:=JM) hlt h)
     by_cases h:xs[i].2.1=1∨xs[i].2.1=2∨xs[i].2.1=4
     ·rcases h with h|h|h
      ·have hq0:=iC h;have c1:=fun {M} w (V:St S M w)=>cN w V xs[i].2.2.1 0 7
       generalize decide (0≤xs[i].2.2.1∧xs[i].2.2.1≤7)=z at *;have e1:(xs[i].2.1 == 1)=true:=by rw [h];rfl
       have e2:(xs[i].2.1 == 2)=false:=by rw [h];rfl
       have e4:(xs[i].2.1 == 4)=false:=by rw [h];rfl
       apply wS ()
      ·have hq0:=iB h;have c1:=fun {M} w (V:St S M w)=>cN w V xs[i].2.2.1 0 3
       have c2:=fun {M} w (V:St S M w)=>cN w V xs[i].2.2.2.1 1 17
       generalize decide (0≤xs[i].2.2.1∧xs[i].2.2.1≤3)=z at *;generalize decide (1≤xs[i].2.2.2.1∧xs[i].2.2.2.1≤17)=z2 at *;have e1:(xs[i].2.1 == 1)=false:=by rw [h];rfl
       have e2:(xs[i].2.1 == 2)=true:=by rw [h];rfl
       have e4:(xs[i].2.1 == 4)=false:=by rw [h];rfl
       clear h cN
       cases z with
       | false =>
        have HF:=hno (by rw [hq0];rfl);apply gZ ()
       | true =>
        cases z2 with
        | false =>
         have HF:=hno (by rw [hq0];rfl);clear hq0;repeat' (first|apply sK ()|apply sG ()|(apply O ();go_step)|(apply kc ();refine sc (c1 _ V) ?_;clear V;rintro v w ⟨rfl,V⟩)|(apply kc ();refine sc (c2 _ V) ?_;clear V;rintro v w ⟨rfl,V⟩)|apply sX ()|apply sP ()|(apply sI ();intro v L)|(apply sS ();clear V;intro w V)|(apply sA ();clear V;intro bk w V)|fail)
         go_ret;exact ⟨_,rfl,by rw [← HE.out,HF.out];rfl,V.sub⟩
        | true =>
         have hq:JM xs[i]=true:=hq0;clear hq0;repeat' (first|apply sK ()|apply sG ()|(apply O ();go_step)|(apply kc ();refine sc (c1 _ V) ?_;clear V;rintro v w ⟨rfl,V⟩)|(apply kc ();refine sc (c2 _ V) ?_;clear V;rintro v w ⟨rfl,V⟩)|apply sX ()|apply sP ()|(apply sI ();intro v L)|(apply sS ();clear V;intro w V)|(apply sA ();clear V;intro bk w V)|fail)
         apply Xa ()
      ·have hq0:=iA h;have c1:=fun {M} w (V:St S M w)=>cN w V xs[i].2.2.2.1 1 1024
       generalize decide (1≤xs[i].2.2.2.1∧xs[i].2.2.2.1≤1024)=z at *;have e1:(xs[i].2.1 == 1)=false:=by rw [h];rfl
       have e2:(xs[i].2.1 == 2)=false:=by rw [h];rfl
       have e4:(xs[i].2.1 == 4)=true:=by rw [h];rfl
       apply wS ()
     ·have hq:=iz (x:=xs[i]) (by omega);have e1:(xs[i].2.1 == 1)=false:=by exact beq_eq_false_iff_ne.2 (by omega)
      have e2:(xs[i].2.1 == 2)=false:=by exact beq_eq_false_iff_ne.2 (by omega)
      have e4:(xs[i].2.1 == 4)=false:=by exact beq_eq_false_iff_ne.2 (by omega)
      clear h cN;repeat' (first|apply sK ()|apply sG ()|(apply O ();go_step)|apply sX ()|apply sP ()|(apply sI ();intro v L)|(apply sS ();clear V;intro w V)|(apply sA ();clear V;intro bk w V)|fail)
      apply Xa ()
    ·have HF:=HA.out;rw [List.take_of_length_le (by omega),HE.out] at HF;replace HF:=Lib.hid HF;repeat' (first|(apply O ();go_step)|apply sX ()|fail)
     go_ret;exact ⟨_,rfl,by rw [HF.out];rfl,V.sub⟩
theorem DG {a b} (ha:0≤a) (hb:0≤b):0≤C9 a b∧C9 a b≤3001:=by unfold C9;split<;>omega
theorem Hz {rec:Int→Int} (h:∀ o,0≤rec o):∀ (os:List Int) (n:Int),0≤n→n≤3001→0≤Dj rec os n∧Dj rec os n≤3001
 | [],n,h1,h2=>⟨h1,h2⟩
 | o::os,n,h1,h2=>by
  rw [Dj];have:=DG h1 (h o);exact Hz h os _ this.1 this.2
theorem OE {b:Int} (hb:0≤b):∀ (f:Nat) (n:Int),0≤n→n≤3001→0≤FP b f n∧FP b f n≤3001
 | 0,n,h1,h2=>⟨h1,h2⟩
 | f+1,n,h1,h2=>by
  rw [FP];split
  ·have:=DG h1 hb;exact OE hb f _ this.1 this.2
  ·exact ⟨h1,h2⟩
theorem D8 (ns:List Nd):∀ (f:Nat) (k:Int),0≤Bf ns f k∧Bf ns f k≤3001
 | 0,k=>⟨Int.le_refl _,by show (0:Int)≤3001;omega⟩
 | f+1,k=>by
  have i:=fun k=>D8 ns f k
  rw [Bf];simp only;split
  ·exact Hz (fun o=>(i o).1) _ _ (Int.le_refl _) (by omega)
  ·split
   ·have h0:=i (AU (Az ns k) 0);have h1:=i (AU (Az ns k) 1);have h2:=i (AU (Az ns k) 2);have h3:=DG h0.1 (show (0:Int)≤1 by omega);have h4:=DG h1.1 (show (0:Int)≤1 by omega);split
    ·split
     ·exact DG h3.1 h2.1
     ·exact DG h3.1 h4.1
    ·exact DG h3.1 h1.1
   ·split
    ·have h0:=i (AU (Az ns k) 0);have h3:=DG h0.1 (show (0:Int)≤1 by omega);exact OE h3.1 _ _ (by omega) (by omega)
    ·exact Hz (fun o=>(i o).1) _ _ (by omega) (by omega)
abbrev Pk (p:Pg) (f:Nat):Prop:=∀ {S M} (w:World) (si sn:Sv) (k:Nat),St S M w→Cm S si sn p→Cl p→k < p.2.1.length→k+1≤f →
  Ac prog 114 [Bo si sn p,.int .i64 (k:Int)] w fun v w'=>v=.int .i64 (Bf p.2.1 f k)∧St S M w'
theorem JE (rec:Int→Int):∀ (os:List Int) (n:Int) (o:Int),Dj rec (os++[o]) n=C9 (Dj rec os n) (rec o)
 | [],n,o=>rfl
 | x::os,n,o=>by rw [List.cons_append,Dj,Dj];exact JE rec os _ o
section
variable {S:Ad} {M:List J} {w:World} {si sn:Sv} {p:Pg} {f k:Nat}
theorem ZE (ih:Pk p f) (V:St S M w) (L:Cm S si sn p) (hw:Cl p) (hk:k < p.2.1.length) (hf:k+1≤f+1) (hv:(p.2.1[k]).1=17) :
  Ac prog 114 [Bo si sn p,.int .i64 (k:Int)] w fun v w'=>v=.int .i64 (Bf p.2.1 (f+1) k)∧St S M w':=by
 unfold Ac;obtain ⟨R,hR⟩:∃ R,Bf p.2.1 (f+1) k=R:=⟨_,rfl⟩
 rw [hR];rw [Bf,Be hk] at hR;simp only at hR;have hn:=L.n;have hi:=L.i;have hln:=L.ln;rw [if_pos hv] at hR;have hol:=L.lo _ (List.getElem_mem hk)
 have cC:∀ (i:Nat) (hi:i < (p.2.1[k]).2.2.2.1.length) {S':Ad} {M:List J} (w:World) (hS:S.Le S') (V:St S' M w),Ac prog 114 [Bo si sn p,.int .i64 ((p.2.1[k]).2.2.2.1[i])] w fun v w'=>v=.int .i64 (Bf p.2.1 f ((p.2.1[k]).2.2.2.1[i]))∧St S' M w':=fun i hi S' M w hS V=>by
  apply jq ()
 have e17:(p.2.1[k].1 == 17)=true:=by rw [hv];rfl
 have HR:=Lib.hid hR;have hb:=D8 p.2.1 f;generalize Bf p.2.1 f=rec at *;clear hR hv;go_enter func114,ntmps114;repeat' ((apply ZZ 1);first|(apply O ();go_step)|(apply sB ();clear V;intro bx w V)|fail)
 refine wp_region_lit ?_;repeat' (first|(apply O ();go_step)|apply sX ()|(apply sD ();intro cl hcl)|(apply sI ();intro v L)|(apply sA ();clear V;intro bk w V)|fail)
 obtain ⟨so,rfl,ho,hI1,hI2,hI3⟩:=A5 hcl;clear hcl;rw [show Z.agg Nd=true from rfl];apply nW ();repeat' ((apply ZZ 4);first|apply sK ()|(apply O ();go_step)|apply sX ()|(apply sS ();clear V;intro w V)|fail)
 repeat' (first|(apply O ();go_step)|fail)
 generalize hos:(p.2.1[k]).2.2.2.1=os at *;clear hos
 go_loopw [6,7] (fun u6 u7 wr=>∃ (i:Nat),i≤os.length∧u6=.int .i64 (Dj rec (os.take i) 0)∧u7=.int .i64 (i:Int)∧St S (.box bk [.int .i64 (p.2.1[k]).1,.int .i64 (p.2.1[k]).2.1,.string ⟨(p.2.1[k]).2.2.1.b.toArray⟩,.slice so.1 so.2.1 so.2.2] 139::.box bx [.slice si.1 si.2.1 si.2.2,.slice sn.1 sn.2.1 sn.2.2,.int .i64 p.2.2.1,.int .i64 p.2.2.2.1] 87::M) wr) (fun _ v _=>os.length - (intOf v).toNat)
 case atStart=>exact ⟨0,Nat.zero_le _,rfl,rfl,V⟩
 case round =>
  clear V;obtain ⟨i,hi2,rfl,rfl,V⟩:=hrel;by_cases hlt:i < os.length
  ·have hsn:=Lib.hid (show C9 (Dj rec (os.take i) 0) (rec os[i])=Dj rec (os.take (i+1)) 0 by rw [List.take_succ_eq_append_getElem hlt,JE]);have h1:=Hz (fun o=>(hb o).1) (os.take i) 0 (by omega) (by omega);have h2:=hb os[i];have cC2:=fun {S' M} w (hS:S.Le S') (V:St S' M w)=>cC i hlt w hS V
   generalize Dj rec (os.take i) 0=n at *;generalize rec os[i]=r at *;have cA:=fun {S' M} w (V:St S' M w)=>Fm w V n r (by omega) (by omega)
   generalize C9 n r=q at *;repeat' ((apply ZZ 8);first|(apply O ();go_step)|apply sX ()|fail)
   apply kp ()
  apply jJ ()
theorem Uu (ih:Pk p f) (V:St S M w) (L:Cm S si sn p) (hw:Cl p) (hk:k < p.2.1.length) (hf:k+1≤f+1) (hv:(p.2.1[k]).1≠17∧(p.2.1[k]).1≠12∧(p.2.1[k]).1≠13) :
  Ac prog 114 [Bo si sn p,.int .i64 (k:Int)] w fun v w'=>v=.int .i64 (Bf p.2.1 (f+1) k)∧St S M w':=by
 unfold Ac;obtain ⟨R,hR⟩:∃ R,Bf p.2.1 (f+1) k=R:=⟨_,rfl⟩
 rw [hR];rw [Bf,Be hk] at hR;simp only at hR;have hn:=L.n;have hi:=L.i;have hln:=L.ln;rw [if_neg hv.1,if_neg hv.2.1,if_neg hv.2.2] at hR;have hol:=L.lo _ (List.getElem_mem hk)
 have cC:∀ (i:Nat) (hi:i < (p.2.1[k]).2.2.2.1.length) {S':Ad} {M:List J} (w:World) (hS:S.Le S') (V:St S' M w),Ac prog 114 [Bo si sn p,.int .i64 ((p.2.1[k]).2.2.2.1[i])] w fun v w'=>v=.int .i64 (Bf p.2.1 f ((p.2.1[k]).2.2.2.1[i]))∧St S' M w':=fun i hi S' M w hS V=>by
  apply jq ()
 have e17:(p.2.1[k].1 == 17)=false:=beq_eq_false_iff_ne.2 (by omega);have e12:(p.2.1[k].1 == 12)=false:=beq_eq_false_iff_ne.2 (by omega);have e13:(p.2.1[k].1 == 13)=false:=beq_eq_false_iff_ne.2 (by omega);have HR:=Lib.hid hR;have hb:=D8 p.2.1 f;generalize Bf p.2.1 f=rec at *;clear hR hv;go_enter func114,ntmps114;repeat' ((apply ZZ 1);first|(apply O ();go_step)|(apply sB ();clear V;intro bx w V)|fail)
 refine wp_region_lit ?_;repeat' (first|(apply O ();go_step)|apply sX ()|(apply sD ();intro cl hcl)|(apply sI ();intro v L)|(apply sA ();clear V;intro bk w V)|fail)
 obtain ⟨so,rfl,ho,hI1,hI2,hI3⟩:=A5 hcl;clear hcl;rw [show Z.agg Nd=true from rfl];apply nW ();repeat' ((apply ZZ 26);first|apply sK ()|(apply O ();go_step)|apply sX ()|(apply sS ();clear V;intro w V)|fail)
 repeat' (first|(apply O ();go_step)|fail)
 generalize hos:(p.2.1[k]).2.2.2.1=os at *;clear hos
 go_loopw [13,14] (fun u6 u7 wr=>∃ (i:Nat),i≤os.length∧u6=.int .i64 (Dj rec (os.take i) 1)∧u7=.int .i64 (i:Int)∧St S (.box bk [.int .i64 (p.2.1[k]).1,.int .i64 (p.2.1[k]).2.1,.string ⟨(p.2.1[k]).2.2.1.b.toArray⟩,.slice so.1 so.2.1 so.2.2] 139::.box bx [.slice si.1 si.2.1 si.2.2,.slice sn.1 sn.2.1 sn.2.2,.int .i64 p.2.2.1,.int .i64 p.2.2.2.1] 87::M) wr) (fun _ v _=>os.length - (intOf v).toNat)
 case atStart=>exact ⟨0,Nat.zero_le _,rfl,rfl,V⟩
 case round =>
  clear V;obtain ⟨i,hi2,rfl,rfl,V⟩:=hrel;by_cases hlt:i < os.length
  ·have hsn:=Lib.hid (show C9 (Dj rec (os.take i) 1) (rec os[i])=Dj rec (os.take (i+1)) 1 by rw [List.take_succ_eq_append_getElem hlt,JE]);have h1:=Hz (fun o=>(hb o).1) (os.take i) 1 (by omega) (by omega);have h2:=hb os[i];have cC2:=fun {S' M} w (hS:S.Le S') (V:St S' M w)=>cC i hlt w hS V
   generalize Dj rec (os.take i) 1=n at *;generalize rec os[i]=r at *;have cA:=fun {S' M} w (V:St S' M w)=>Fm w V n r (by omega) (by omega)
   generalize C9 n r=q at *;repeat' ((apply ZZ 30);first|(apply O ();go_step)|apply sX ()|fail)
   apply kp ()
  apply jJ ()
theorem g6 {p} (hw:Cl p) {k} (hk:k < p.2.1.length) (h:(p.2.1[k]).1=13):(p.2.1[k]).2.2.2.1.length=1:=by
 have:=LR hw hk;unfold EW at this;rw [if_neg (by omega),if_neg (by omega),if_neg (by omega),if_pos h] at this;exact this.symm
theorem ZB (ih:Pk p f) (V:St S M w) (L:Cm S si sn p) (hw:Cl p) (hk:k < p.2.1.length) (hf:k+1≤f+1) (hv:(p.2.1[k]).1=13) :
  Ac prog 114 [Bo si sn p,.int .i64 (k:Int)] w fun v w'=>v=.int .i64 (Bf p.2.1 (f+1) k)∧St S M w':=by
 unfold Ac;obtain ⟨R,hR⟩:∃ R,Bf p.2.1 (f+1) k=R:=⟨_,rfl⟩
 rw [hR];rw [Bf,Be hk] at hR;simp only at hR;have hn:=L.n;have hi:=L.i;have hln:=L.ln;rw [if_neg (by omega),if_neg (by omega),if_pos hv] at hR;have hl:=g6 hw hk hv;have hl0:0 < (p.2.1[k]).2.2.2.1.length:=by omega
 obtain ⟨o0,a0,b0,d0⟩:=Ch hw hk hl0;have hc0:=D8 p.2.1 f (AU (p.2.1[k]) 0);have cT0:∀ {S' M} w (hS:S.Le S') (V:St S' M w),Ac prog 114 [Bo si sn p,.int .i64 ((p.2.1[k]).2.2.2.1[0])] w fun v w'=>v=.int .i64 (Bf p.2.1 f (AU (p.2.1[k]) 0))∧St S' M w':=fun w hS V=>by rw [b0,d0];exact ih w si sn o0 V (L.mono hS) hw (by omega) (by omega)
 generalize Bf p.2.1 f (AU (p.2.1[k]) 0)=t0 at *;have e17:(p.2.1[k].1 == 17)=false:=beq_eq_false_iff_ne.2 (by omega);have e12:(p.2.1[k].1 == 12)=false:=beq_eq_false_iff_ne.2 (by omega);have e13:(p.2.1[k].1 == 13)=true:=by rw [hv];rfl
 obtain ⟨r0,Q0⟩:∃ r,C9 t0 1=r:=⟨_,rfl⟩
 have c0:=fun {S' M} w (V:St S' M w)=>Fm w V t0 1 (by omega) (by omega)
 have q0:=DG (a:=t0) (b:=1) (by omega) (by omega);rw [Q0] at c0 q0 hR;replace Q0:=Lib.hid Q0;have HR:=Lib.hid hR;clear hR hv b0 d0 hl hw;go_enter func114,ntmps114;repeat' ((apply ZZ 1);first|(apply O ();go_step)|(apply sB ();clear V;intro bx w V)|fail)
 refine wp_region_lit ?_;repeat' (first|(apply O ();go_step)|apply sX ()|(apply sD ();intro cl hcl)|(apply sI ();intro v L)|(apply sA ();clear V;intro bk w V)|fail)
 obtain ⟨so,rfl,ho,hI1,hI2,hI3⟩:=A5 hcl;clear hcl;rw [show Z.agg Nd=true from rfl];apply nW ();repeat' ((apply ZZ 19);first|apply sK ()|(apply O ();go_step)|apply sX ()|(apply sS ();clear V;intro w V)|fail)
 repeat' ((apply ZZ 20);first|(apply O ();go_step)|fail)
 refine AD V kr ?_;clear V;intro ops;apply nW ();refine td 0 rfl ?_;refine td 1 rfl ?_;refine td 2 rfl ?_;refine tx 3 rfl (Aq X Ak rfl Y Y Af Af) ?_;rintro v L;replace L:=iN L;refine tx 4 rfl (Am X Ak Y) ?_;rintro v ⟨rfl,hI⟩;(refine AQ 5 rfl kr rfl (fun S' M' w hS hM V=>cT0 w hS V) Y rfl ?_)<;>apply nW ()
 (refine AQ 6 rfl kr rfl (fun S' M' w hS hM V=>c0 w V) Y rfl ?_)<;>apply nW ()
 refine td 7 rfl ?_;refine AJ kr ?_;clear ops;intro w V;have hr0:1≤r0:=by rw [← Q0.out];unfold C9;split<;>omega
 generalize hN:(p.2.1[k]).2.1=Nqq at *;clear hN;repeat' (first|(apply O ();go_step)|fail)
 go_loopw [10,12] (fun u10 u12 wr=>∃ (i m:Nat) (n:Int),u10=.int .i64 n∧u12=.int .i64 (i:Int)∧(0≤n∧n≤3001∧i≤n)∧Hid (FP r0 m n=R)∧(Nqq≤i+m∧(m≤0∨i+m≤Nqq))∧St S (.box bk [.int .i64 (p.2.1[k]).1,.int .i64 Nqq,.string ⟨(p.2.1[k]).2.2.1.b.toArray⟩,.slice so.1 so.2.1 so.2.2] 139::.box bx [.slice si.1 si.2.1 si.2.2,.slice sn.1 sn.2.1 sn.2.2,.int .i64 p.2.2.1,.int .i64 p.2.2.2.1] 87::M) wr) (fun v _ _=>3001 - (intOf v).toNat)
 case atStart=>exact ⟨0,Nqq.toNat,2,rfl,rfl,by omega,HR,by omega,V⟩
 case round =>
  clear V HR;obtain ⟨i,m,n,rfl,rfl,hb,HR,hm,V⟩:=hrel;by_cases h3:n < 3001
  ·by_cases hlt:(i:Int) < Nqq
   ·obtain ⟨m,rfl⟩:∃ m',m=m'+1:=⟨m - 1,by omega⟩
    have HN:=HR.out;rw [FP,if_pos h3] at HN;have cA:=fun {S' M} w (V:St S' M w)=>Fm w V n r0 (by omega) (by omega)
    have qA:=DG (a:=n) (b:=r0) (by omega) (by omega);have qB:n < C9 n r0:=by unfold C9;split<;>omega
    generalize C9 n r0=q at *;replace HN:=Lib.hid HN;clear HR;repeat' (first|apply sG ()|(apply O ();go_step)|(apply kc ();refine sc (cA _ V) ?_;clear V;rintro v w ⟨rfl,V⟩)|apply sX ()|fail)
    go_roundw
    case rel=>exact ⟨i+1,m,q,rfl,by go_num,by omega,HN,by omega,V⟩
    case measure=>simp [intOf];omega
   ·have HN:=HR.out;obtain rfl:m=0:=by omega
    rw [FP] at HN;replace HN:=Lib.hid HN;clear HR;repeat' (first|apply sG ()|(apply O ();go_step)|apply sX ()|fail)
    go_ret;exact ⟨_,rfl,by rw [← HN.out];rfl,V.sub⟩
  ·have HN:FP r0 m n=n:=by
    cases m with
    | zero=>rfl
    | succ m=>rw [FP,if_neg h3]
   rw [HR.out] at HN;replace HN:=Lib.hid HN;clear HR;by_cases hlt:(i:Int) < Nqq
   ·repeat' (first|apply sG ()|(apply O ();go_step)|apply sX ()|fail)
    go_ret;exact ⟨_,rfl,by rw [HN.out];rfl,V.sub⟩
   ·repeat' (first|apply sG ()|(apply O ();go_step)|apply sX ()|fail)
    go_ret;exact ⟨_,rfl,by rw [HN.out];rfl,V.sub⟩
theorem ZD (ih:Pk p f) (V:St S M w) (L:Cm S si sn p) (hw:Cl p) (hk:k < p.2.1.length) (hf:k+1≤f+1) (hv:(p.2.1[k]).1=12) (hv3:¬ (p.2.1[k]).2.2.2.1.length=3) :
  Ac prog 114 [Bo si sn p,.int .i64 (k:Int)] w fun v w'=>v=.int .i64 (Bf p.2.1 (f+1) k)∧St S M w':=by
 unfold Ac;obtain ⟨R,hR⟩:∃ R,Bf p.2.1 (f+1) k=R:=⟨_,rfl⟩
 rw [hR];rw [Bf,Be hk] at hR;simp only at hR;have hn:=L.n;have hi:=L.i;have hln:=L.ln;rw [if_neg (by omega),if_pos hv] at hR;rw [if_neg hv3] at hR;have hl:=NO hw hk hv;have hl0:0 < (p.2.1[k]).2.2.2.1.length:=by omega
 obtain ⟨o0,a0,b0,d0⟩:=Ch hw hk hl0;have hc0:=D8 p.2.1 f (AU (p.2.1[k]) 0);have cT0:∀ {S' M} w (hS:S.Le S') (V:St S' M w),Ac prog 114 [Bo si sn p,.int .i64 ((p.2.1[k]).2.2.2.1[0])] w fun v w'=>v=.int .i64 (Bf p.2.1 f (AU (p.2.1[k]) 0))∧St S' M w':=fun w hS V=>by rw [b0,d0];exact ih w si sn o0 V (L.mono hS) hw (by omega) (by omega)
 generalize Bf p.2.1 f (AU (p.2.1[k]) 0)=t0 at *;have hl1:1 < (p.2.1[k]).2.2.2.1.length:=by omega
 obtain ⟨o1,a1,b1,d1⟩:=Ch hw hk hl1;have hc1:=D8 p.2.1 f (AU (p.2.1[k]) 1);have cT1:∀ {S' M} w (hS:S.Le S') (V:St S' M w),Ac prog 114 [Bo si sn p,.int .i64 ((p.2.1[k]).2.2.2.1[1])] w fun v w'=>v=.int .i64 (Bf p.2.1 f (AU (p.2.1[k]) 1))∧St S' M w':=fun w hS V=>by rw [b1,d1];exact ih w si sn o1 V (L.mono hS) hw (by omega) (by omega)
 generalize Bf p.2.1 f (AU (p.2.1[k]) 1)=t1 at *;have e17:(p.2.1[k].1 == 17)=false:=beq_eq_false_iff_ne.2 (by omega);have e12:(p.2.1[k].1 == 12)=true:=by rw [hv];rfl
 have e3:(((p.2.1[k]).2.2.2.1.length:Int) == 3)=false:=beq_eq_false_iff_ne.2 (by omega);have c0:=fun {S' M} w (V:St S' M w)=>Fm w V t0 1 (by omega) (by omega)
 have q0:=DG (a:=t0) (b:=1) (by omega) (by omega);generalize C9 t0 1=r0 at *;have c2:=fun {S' M} w (V:St S' M w)=>Fm w V r0 t1 (by omega) (by omega)
 rw [hR] at c2;clear hR hv hv3 b0 d0 b1 d1 hl hw;go_enter func114,ntmps114;repeat' ((apply ZZ 1);first|(apply O ();go_step)|(apply sB ();clear V;intro bx w V)|fail)
 refine wp_region_lit ?_;repeat' (first|(apply O ();go_step)|apply sX ()|(apply sD ();intro cl hcl)|(apply sI ();intro v L)|(apply sA ();clear V;intro bk w V)|fail)
 obtain ⟨so,rfl,ho,hI1,hI2,hI3⟩:=A5 hcl;clear hcl;rw [show Z.agg Nd=true from rfl];apply nW ();repeat' ((apply ZZ 11);first|apply sK ()|(apply O ();go_step)|apply sX ()|(apply sS ();clear V;intro w V)|fail)
 refine AD V kr ?_;clear V;intro ops;apply nW ();refine td 0 rfl ?_;refine td 1 rfl ?_;refine td 2 rfl ?_;refine tx 3 rfl (Aq X Ak rfl Y Y Af Af) ?_;rintro v L;replace L:=iN L;refine tx 4 rfl (Am X Ak Y) ?_;rintro v ⟨rfl,hI⟩;(refine AQ 5 rfl kr rfl (fun S' M' w hS hM V=>cT1 w hS V) Y rfl ?_)<;>apply nW ()
 refine td 6 rfl ?_;refine AJ kr ?_;clear ops;intro w V;repeat' ((apply ZZ 17);first|apply sK ()|(apply O ();go_step)|apply sX ()|fail)
 refine AD V kr ?_;clear V;intro ops;apply nW ();refine td 0 rfl ?_;refine td 1 rfl ?_;refine td 2 rfl ?_;refine tx 3 rfl (Aq X Ak rfl Y Y Af Af) ?_;rintro v L;replace L:=iN L;refine tx 4 rfl (Am X Ak Y) ?_;rintro v ⟨rfl,hI⟩;(refine AQ 5 rfl kr rfl (fun S' M' w hS hM V=>cT0 w hS V) Y rfl ?_)<;>apply nW ()
 (refine AQ 6 rfl kr rfl (fun S' M' w hS hM V=>c0 w V) Y rfl ?_)<;>apply nW ()
 refine td 7 rfl ?_;(refine AQ 8 rfl kr rfl (fun S' M' w hS hM V=>c2 w V) Y rfl ?_)<;>apply nW ()
 refine td 9 rfl ?_;apply jZ ()
theorem ZC (ih:Pk p f) (V:St S M w) (L:Cm S si sn p) (hw:Cl p) (hk:k < p.2.1.length) (hf:k+1≤f+1) (hv:(p.2.1[k]).1=12) (hv3:(p.2.1[k]).2.2.2.1.length=3) :
  Ac prog 114 [Bo si sn p,.int .i64 (k:Int)] w fun v w'=>v=.int .i64 (Bf p.2.1 (f+1) k)∧St S M w':=by
 unfold Ac;obtain ⟨R,hR⟩:∃ R,Bf p.2.1 (f+1) k=R:=⟨_,rfl⟩
 rw [hR];rw [Bf,Be hk] at hR;simp only at hR;have hn:=L.n;have hi:=L.i;have hln:=L.ln;rw [if_neg (by omega),if_pos hv] at hR;rw [if_pos hv3] at hR;have hl:=NO hw hk hv;have hl0:0 < (p.2.1[k]).2.2.2.1.length:=by omega
 obtain ⟨o0,a0,b0,d0⟩:=Ch hw hk hl0;have hc0:=D8 p.2.1 f (AU (p.2.1[k]) 0);have cT0:∀ {S' M} w (hS:S.Le S') (V:St S' M w),Ac prog 114 [Bo si sn p,.int .i64 ((p.2.1[k]).2.2.2.1[0])] w fun v w'=>v=.int .i64 (Bf p.2.1 f (AU (p.2.1[k]) 0))∧St S' M w':=fun w hS V=>by rw [b0,d0];exact ih w si sn o0 V (L.mono hS) hw (by omega) (by omega)
 generalize Bf p.2.1 f (AU (p.2.1[k]) 0)=t0 at *;have hl1:1 < (p.2.1[k]).2.2.2.1.length:=by omega
 obtain ⟨o1,a1,b1,d1⟩:=Ch hw hk hl1;have hc1:=D8 p.2.1 f (AU (p.2.1[k]) 1);have cT1:∀ {S' M} w (hS:S.Le S') (V:St S' M w),Ac prog 114 [Bo si sn p,.int .i64 ((p.2.1[k]).2.2.2.1[1])] w fun v w'=>v=.int .i64 (Bf p.2.1 f (AU (p.2.1[k]) 1))∧St S' M w':=fun w hS V=>by rw [b1,d1];exact ih w si sn o1 V (L.mono hS) hw (by omega) (by omega)
 generalize Bf p.2.1 f (AU (p.2.1[k]) 1)=t1 at *;have hl2:2 < (p.2.1[k]).2.2.2.1.length:=by omega
 obtain ⟨o2,a2,b2,d2⟩:=Ch hw hk hl2;have hc2:=D8 p.2.1 f (AU (p.2.1[k]) 2);have cT2:∀ {S' M} w (hS:S.Le S') (V:St S' M w),Ac prog 114 [Bo si sn p,.int .i64 ((p.2.1[k]).2.2.2.1[2])] w fun v w'=>v=.int .i64 (Bf p.2.1 f (AU (p.2.1[k]) 2))∧St S' M w':=fun w hS V=>by rw [b2,d2];exact ih w si sn o2 V (L.mono hS) hw (by omega) (by omega)
 generalize Bf p.2.1 f (AU (p.2.1[k]) 2)=t2 at *;have e17:(p.2.1[k].1 == 17)=false:=beq_eq_false_iff_ne.2 (by omega);have e12:(p.2.1[k].1 == 12)=true:=by rw [hv];rfl
 have e3:(((p.2.1[k]).2.2.2.1.length:Int) == 3)=true:=by rw [hv3];rfl
 have c0:=fun {S' M} w (V:St S' M w)=>Fm w V t0 1 (by omega) (by omega)
 have q0:=DG (a:=t0) (b:=1) (by omega) (by omega);generalize C9 t0 1=r0 at *;have c1:=fun {S' M} w (V:St S' M w)=>Fm w V t1 1 (by omega) (by omega)
 have q1:=DG (a:=t1) (b:=1) (by omega) (by omega);generalize C9 t1 1=r1 at *;obtain ⟨s,hs⟩:∃ s,(if t2 > r1 then t2 else r1)=s:=⟨_,rfl⟩
 rw [hs] at hR;have hs2:0≤s∧s≤3001:=by rw [← hs];split<;>omega
 have c2:=fun {S' M} w (V:St S' M w)=>Fm w V r0 s (by omega) (by omega)
 rw [hR] at c2;have HS:=Lib.hid hs;clear hR hs hv hv3 b0 d0 b1 d1 b2 d2 hl hw;by_cases h9:t2 > r1
 ·obtain rfl:s=t2:=by rw [← HS.out,if_pos h9]
  go_enter func114,ntmps114;apply kE ()
 ·obtain rfl:s=r1:=by rw [← HS.out,if_neg h9]
  go_enter func114,ntmps114;apply kE ()
theorem WP (p f) (ih:Pk p f):Pk p (f+1):=fun w si sn k V L hw hk hf=>by
 by_cases h1:(p.2.1[k]).1=17
 ·exact ZE ih V L hw hk hf h1
 ·by_cases h2:(p.2.1[k]).1=12
  ·by_cases h3:(p.2.1[k]).2.2.2.1.length=3
   ·exact ZC ih V L hw hk hf h2 h3
   ·exact ZD ih V L hw hk hf h2 h3
  ·by_cases h3:(p.2.1[k]).1=13
   ·exact ZB ih V L hw hk hf h3
   ·exact Uu ih V L hw hk hf ⟨h1,h2,h3⟩
theorem WQ (p:Pg):∀ f,Pk p f
 | 0=>fun w si sn k _ _ _ _ hf=>absurd hf (by omega)
 | f+1=>WP p f (WQ p f)
end
def OF (i:Ip):Int:=if i.2.1=1∨i.2.1=3 then 2 else i.2.2.2.1
theorem Mn (p):Gv p=p.1.map OF:=rfl
theorem gc {S v} {xs:List Ip} (h:RSl S v xs) {i} (hi:i < xs.length):Au xs[i].2.2.2.1:=by
 rcases h with ⟨ad,cap,rfl,rfl,_⟩|⟨b,o,cap,c,T,fz,rfl,_,_,_,hR⟩
 ·simp at hi
 ·have h:=hR.2 i xs[i] (List.getElem?_eq_getElem hi);exact h.2.2.2.2.2.2.2.1.2
theorem aZ {S M} (w) (V:St S M w) (si sn p) (L:Cm S si sn p):
  Ac prog 71 [Bo si sn p] w (Jr S M (Gv p)):=by
 unfold Ac;have hi:=L.i;have hli:=L.li;obtain ⟨R,hR⟩:∃ R,Gv p=R:=⟨_,rfl⟩
 rw [hR];rw [Mn] at hR;have HR:=Lib.hid hR;clear hR L;generalize hxs:p.1=xs at HR hi hli;clear hxs;go_enter func71,ntmps71;replace V:=V.nil 3 1;repeat' (first|(apply O ();go_step)|(apply sB ();clear V;intro bx w V)|fail)
 go_loopw [3,4] (fun u3 u4 wr=>∃ (i:Nat) (so:Sv) (co:List Value),i≤xs.length∧u3=Ar so∧u4=.int .i64 (i:Int)∧RL S co ((xs.take i).map OF)∧St S (.box bx [.slice si.1 si.2.1 si.2.2,.slice sn.1 sn.2.1 sn.2.2,.int .i64 p.2.2.1,.int .i64 p.2.2.2.1] 87::.sl (Ar so) 3 1 i co::M) wr) (fun _ v _=>xs.length - (intOf v).toNat)
 case atStart=>exact ⟨0,(none,0,0),[],Nat.zero_le _,rfl,rfl,RL.nil,V⟩
 case round =>
  clear V;obtain ⟨i,so,co,hi2,rfl,rfl,hC,V⟩:=hrel;have hone:=BE (k:=1) V rfl;by_cases hlt:i < xs.length
  ·have hI:=gc hi hlt;have hsn:Hid ((xs.take (i+1)).map OF=(xs.take i).map OF++[OF xs[i]]):=Lib.hid (by rw [List.take_succ_eq_append_getElem hlt,List.map_append];rfl);by_cases h:xs[i].2.1=1∨xs[i].2.1=3
   ·have hs:Hid (OF xs[i]=2):=Lib.hid (if_pos h);obtain ⟨z1,hz1⟩:∃ z,(xs[i].2.1 == 1)=z:=⟨_,rfl⟩
    obtain ⟨z2,hz2⟩:∃ z,(xs[i].2.1 == 3)=z:=⟨_,rfl⟩
    have hc:z1=true∨(z1=false∧z2=true):=by
     rcases h with h|h
     ·left;rw [← hz1,h];rfl
     ·right;exact ⟨by rw [← hz1,h];rfl,by rw [← hz2,h];rfl⟩
    clear h;rcases hc with rfl|⟨rfl,rfl⟩
    all_goals
     repeat' (first|apply sK ()|apply sG ()|(apply O ();go_step)|apply sX ()|(apply sN ();intro hI)|(apply sI ();intro v L)|fail)
     refine Ay (vs:=[(.int .i64 2)]) V Y Y rfl rfl (by simp [Value.cells]) rfl (by omega) (by omega) ?_;clear V;intro u w V;refine nX ?_;apply uC ();clear V;intro v' w V;refine nX ?_;(try replace V:=nH V);replace V:=V.drop;obtain ⟨ay,cy,rfl⟩:=Go.Sl.sl_formk (k:=1) V rfl;apply nW ();repeat' (first|(apply O ();go_step)|fail)
     go_roundw
     case rel=>exact ⟨i+1,(ay,i+1,cy),co++[.int .i64 2],by omega,rfl,by go_num,by rw [hsn.out,hs.out];exact hC.append (Cw (Ah (by decide))),V⟩
     case measure=>simp [intOf];omega
   ·have hs:Hid (OF xs[i]=xs[i].2.2.2.1):=Lib.hid (if_neg h);have hz1:(xs[i].2.1 == 1)=false:=beq_eq_false_iff_ne.2 (by omega);have hz2:(xs[i].2.1 == 3)=false:=beq_eq_false_iff_ne.2 (by omega);clear h;repeat' (first|apply sK ()|apply sG ()|(apply O ();go_step)|apply sX ()|(apply sN ();intro hI)|(apply sI ();intro v L)|fail)
    refine Ay (vs:=[(.int .i64 xs[i].2.2.2.1)]) V Y Y rfl rfl (by simp [Value.cells]) rfl (by omega) (by omega) ?_;clear V;intro u w V;refine nX ?_;apply uC ();clear V;intro v' w V;refine nX ?_;(try replace V:=nH V);replace V:=V.drop;obtain ⟨ay,cy,rfl⟩:=Go.Sl.sl_formk (k:=1) V rfl;apply nW ();repeat' (first|(apply O ();go_step)|fail)
    go_roundw
    case rel=>exact ⟨i+1,(ay,i+1,cy),co++[.int .i64 xs[i].2.2.2.1],by omega,rfl,by go_num,by rw [hsn.out,hs.out];exact hC.append (Cw hI),V⟩
    case measure=>simp [intOf];omega
  ·obtain rfl:i=xs.length:=by omega
   rw [List.take_length,HR.out] at hC;have hl:Hid (xs.length=R.length):=Lib.hid (by rw [← HR.out,List.length_map]);clear HR;repeat' (first|(apply O ();go_step)|apply sX ()|fail)
   replace V:=V.drop;obtain ⟨S2,so2,hS2,e2,hx,hst2⟩:=Ex V hC hl.out;clear V;have V:=hst2;clear hst2;go_ret;exact ⟨_,rfl,S2,so2,hS2,e2,hx,V⟩
abbrev Q8 (S:Ad) (M:List J) (r:Int) (v:Value) (w:World):Prop:=∃ S',S.Le S'∧v=.int .i64 r∧St S' M w
theorem ZF {S M} (w) (V:St S M w) (si sn p) (L:Cm S si sn p) (hf:CV p=true):
  Ac prog 70 [Bo si sn p] w (Q8 S M (C9 (Bf p.2.1 (p.2.1.length+1) p.2.2.1) 1)):=by
 unfold Ac;have hw:=LK hf;have cF:=fun {M} w (V:St S M w)=>QA w V si sn p L
 rw [hf] at cF;have hrt:=hw.rt;have hn0:=hw.n0
 have cC:∀ {S' M} w (hS:S.Le S') (V:St S' M w),Ac prog 114 [Bo si sn p,.int .i64 p.2.2.1] w fun v w'=>v=.int .i64 (Bf p.2.1 (p.2.1.length+1) p.2.2.1)∧St S' M w':=fun w hS V=>by
  rw [show p.2.2.1=((p.2.1.length - 1:Nat):Int) by omega];have:=WQ p (p.2.1.length+1) w si sn (p.2.1.length - 1) V (L.mono hS) hw (by omega) (by omega);rw [show (Bo si sn p)=Bo si sn p from rfl] at this
  simpa [show p.2.2.1=((p.2.1.length - 1:Nat):Int) by omega] using this
 have hb:=D8 p.2.1 (p.2.1.length+1) p.2.2.1;generalize Bf p.2.1 (p.2.1.length+1) p.2.2.1=t at *;clear hrt hw hf;go_enter func70,ntmps70;repeat' (first|(apply O ();go_step)|(apply kc ();refine sc (cF _ V) ?_;clear V;rintro v w ⟨S1,hS1,rfl,V⟩)|(apply kc ();refine sc (cC _ hS1 V) ?_;clear V;rintro v w ⟨rfl,V⟩)|(apply kc ();refine sc (Fm _ V t 1 (by omega) (by omega)) ?_;clear V;rintro v w ⟨rfl,V⟩)|apply sX ()|(apply sB ();clear V;intro bx w V)|fail)
 go_ret;exact ⟨_,rfl,S1,hS1,rfl,V.sub⟩
theorem SK {p} (h:CV p=false):BH p=1:=by unfold BH;simp only;rw [if_pos h]
theorem dU {p} (h:CV p=true) (h2:FD p=false):BH p=4:=by unfold BH;simp only;rw [if_neg (by rw [h];decide),if_pos h2]
theorem dT {p} (h:CV p=true) (h2:FD p=true) (h3:p.2.1.all (A1 p (p.2.1.length+1))=false):BH p=5:=by
 unfold BH;simp only;rw [if_neg (by rw [h];decide),if_neg (by rw [h2];decide),if_pos h3]
theorem dV {p} (h:CV p=true) (h2:FD p=true) (h3:p.2.1.all (A1 p (p.2.1.length+1))=true) (h4:G3 p=false∨p.1.length > 6∨p.2.2.2.1 > 8∨C9 (Bf p.2.1 (p.2.1.length+1) p.2.2.1) 1 > 3000):BH p=2:=by
 unfold BH;simp only;rw [if_neg (by rw [h];decide),if_neg (by rw [h2];decide),if_neg (by rw [h3];decide),if_pos h4]
theorem dS {p} (h:CV p=true) (h2:FD p=true) (h3:p.2.1.all (A1 p (p.2.1.length+1))=true) (h4:¬ (G3 p=false∨p.1.length > 6∨p.2.2.2.1 > 8∨C9 (Bf p.2.1 (p.2.1.length+1) p.2.2.1) 1 > 3000)):BH p=if Ig (Gv p) 1=false then 2 else 0:=by
 unfold BH;simp only;rw [if_neg (by rw [h];decide),if_neg (by rw [h2];decide),if_neg (by rw [h3];decide),if_neg h4]
theorem X4 {p} (hf:CV p=true) (hr:G3 p=true):∀ s∈Gv p,1≤s∧s≤1024:=by
 intro s hs;rw [Mn] at hs;obtain ⟨i,hi,rfl⟩:=List.mem_map.1 hs
 have hk:¬ (i.2.1 < 1∨i.2.1 > 4):=by
  intro hb;have:p.1.any (fun i=>decide (i.2.1 < 1∨i.2.1 > 4))=true:=List.any_eq_true.2 ⟨i,hi,decide_eq_true hb⟩;unfold CV at hf;simp only at hf;rw [this] at hf;split at hf
  ·cases hf
  ·split at hf
   ·cases hf
   ·simp at hf
 unfold G3 at hr;have h2:=List.all_eq_true.1 (Bool.and_eq_true_iff.1 hr).2 i hi;simp only [Bool.not_eq_true',Bool.or_eq_false_iff,decide_eq_false_iff_not] at h2;unfold OF;split<;>omega
theorem TH {zs:List Int} {i} (h n):Ig (zs.drop i) n=if n * zs[i] > 1024 then false else Ig (zs.drop (i+1)) (n * zs[i]):=by
 rw [List.drop_eq_getElem_cons h,Ig]
theorem fO {n z:Int} (hn:1≤n∧n≤1024) (hz:1≤z∧z≤1024):1≤n * z∧n * z≤1048576:=by
 have h1:0 < n * z:=Int.mul_pos (by omega) (by omega);have h2:n * z≤1024 * 1024:=Int.mul_le_mul hn.2 hz.2 (by omega) (by omega);omega
theorem Qd {S M} (w) (V:St S M w) (si sn p) (L:Cm S si sn p):
  Ac prog 37 [Bo si sn p] w (Q8 S M (BH p)):=by
 unfold Ac;have cF:=fun {M} w (V:St S M w)=>QA w V si sn p L
 cases hf:CV p with
 | false =>
  rw [hf] at cF;have HR:=Lib.hid (SK hf);clear hf;go_enter func37,ntmps37;repeat' (first|(apply O ();go_step)|(apply kc ();refine sc (cF _ V) ?_;clear V;rintro v w ⟨S1,hS1,rfl,V⟩)|apply sX ()|(apply sB ();clear V;intro bx w V)|fail)
  go_ret;exact ⟨_,rfl,S1,hS1,by rw [HR.out];rfl,V.sub⟩
 | true =>
  rw [hf] at cF;have cN:=fun {S' M} w (hS:S.Le S') (V:St S' M w)=>cQ w V si sn p (L.mono hS)
  cases hn:FD p with
  | false =>
   rw [hn] at cN;have HR:=Lib.hid (dU hf hn);clear hf hn;go_enter func37,ntmps37;repeat' (first|(apply O ();go_step)|(apply kc ();refine sc (cF _ V) ?_;clear V;rintro v w ⟨S1,hS1,rfl,V⟩)|(apply kc ();refine sc (cN _ hS1 V) ?_;clear V;rintro v w ⟨rfl,V⟩)|apply sX ()|(apply sB ();clear V;intro bx w V)|fail)
   go_ret;exact ⟨_,rfl,S1,hS1,by rw [HR.out];rfl,V.sub⟩
  | true =>
   rw [hn] at cN;have hw:=LK hf;have hnm:=Y0 hn;have hln:=L.ln;have C5:=fun h=>Lib.hid (dT hf hn h)
   have C2:=fun h3 h4=>Lib.hid (dV hf hn h3 h4)
   have CE:=fun h3 h4=>Lib.hid (dS hf hn h3 h4)
   have HF:=Lib.hid hf;obtain ⟨R,hR⟩:∃ R,BH p=R:=⟨_,rfl⟩
   rw [hR] at C5 C2 CE;rw [hR];have HP:=Lib.hid L;have HW:=Lib.hid hw;have HNM:=Lib.hid hnm;clear hR hf hn hw hnm;go_enter func37,ntmps37;repeat' ((apply ZZ 7);first|(apply O ();go_step)|(apply kc ();refine sc (cF _ V) ?_;clear V;rintro v w ⟨S1,hS1,rfl,V⟩)|(apply kc ();refine sc (cN _ hS1 V) ?_;clear V;rintro v w ⟨rfl,V⟩)|apply sX ()|(apply sB ();clear V;intro bx w V)|fail)
   have hp1:=L.mono hS1;have hn1:=hp1.n;have hi1:=hp1.i;have HP1:=Lib.hid hp1;clear cF cN L hp1;repeat' (first|(apply O ();go_step)|fail)
   go_loopw [5,6] (fun u5 _ wr=>∃ (i:Nat),i≤p.2.1.length∧u5=.int .i64 (i:Int)∧Hid ((p.2.1.take i).all (A1 p (p.2.1.length+1))=true)∧St S1 (.box bx [.slice si.1 si.2.1 si.2.2,.slice sn.1 sn.2.1 sn.2.2,.int .i64 p.2.2.1,.int .i64 p.2.2.2.1] 87::M) wr) (fun v _ _=>p.2.1.length - (intOf v).toNat)
   case atStart=>exact ⟨0,Nat.zero_le _,rfl,Lib.hid rfl,V⟩
   case round =>
    clear V;obtain ⟨i,hi2,rfl,HA,V⟩:=hrel;by_cases hlt:i < p.2.1.length
    ·have hnx:=Lib.hid (MK (A1 p (p.2.1.length+1)) p.2.1 hlt);have cT:=fun {M} w (V:St S1 M w)=>aM (f:=p.2.1.length+1) V HP1.out HW.out HNM.out hlt (Nat.le_refl _)
     cases hz:A1 p (p.2.1.length+1) p.2.1[i] with
     | false =>
      have HE:=C5 (Q4 (q:=A1 p (p.2.1.length+1)) hlt hz);rw [hz] at cT;clear hz;repeat' (first|(apply O ();go_step)|(apply kc ();refine sc (cT _ V) ?_;clear V;rintro v w ⟨rfl,V⟩)|apply sX ()|fail)
      go_ret;exact ⟨_,rfl,S1,hS1,by rw [HE.out];rfl,V.sub⟩
     | true =>
      rw [hz] at cT;have HZ:=Lib.hid hz;clear hz;repeat' (first|(apply O ();go_step)|(apply kc ();refine sc (cT _ V) ?_;clear V;rintro v w ⟨rfl,V⟩)|apply sX ()|fail)
      go_roundw
      case rel=>exact ⟨i+1,by omega,by go_num,Lib.hid (by rw [hnx.out,HA.out,HZ.out];rfl),V⟩
      case measure=>simp [intOf];omega
    ·have HA2:=HA.out;rw [List.take_of_length_le (by omega)] at HA2;have D2:=C2 HA2;have DE:=CE HA2;have cR:=fun {M} w (V:St S1 M w)=>Yy w V si sn p HP1.out
     have cK:=fun {M} w (V:St S1 M w)=>ZF w V si sn p HP1.out HF.out
     have HSZ:Hid (G3 p=true→∀ s∈Gv p,1≤s∧s≤1024):=Lib.hid (X4 HF.out);have hcb:=DG (D8 p.2.1 (p.2.1.length+1) p.2.2.1).1 (show (0:Int)≤1 by omega);generalize C9 (Bf p.2.1 (p.2.1.length+1) p.2.2.1) 1=t at *;generalize G3 p=z1 at *;obtain ⟨z2,hz2⟩:∃ z,decide ((p.1.length:Int) > 6)=z:=⟨_,rfl⟩
     obtain ⟨z3,hz3⟩:∃ z,decide (p.2.2.2.1 > 8)=z:=⟨_,rfl⟩
     obtain ⟨z4,hz4⟩:∃ z,decide (t > 3000)=z:=⟨_,rfl⟩
     have hc:(z1=false∨p.1.length > 6∨p.2.2.2.1 > 8∨t > 3000)↔(!z1 || (z2 || (z3 || z4)))=true:=by
      rw [← hz2,← hz3,← hz4];simp only [Bool.or_eq_true,Bool.not_eq_true',decide_eq_true_eq];constructor
      ·rintro (h|h|h|h)
       ·exact .inl h
       ·exact .inr (.inl (by omega))
       ·exact .inr (.inr (.inl h))
       ·exact .inr (.inr (.inr h))
      ·rintro (h|h|h|h)
       ·exact .inl h
       ·exact .inr (.inl (by omega))
       ·exact .inr (.inr (.inl h))
       ·exact .inr (.inr (.inr h))
     simp only [hc] at D2 DE;clear hc HA2 C5 C2 CE HA;have kz:z1=false∨(z1=true∧z2=true)∨(z1=true∧z2=false∧z3=true)∨(z1=true∧z2=false∧z3=false∧z4=true)∨(z1=true∧z2=false∧z3=false∧z4=false):=by cases z1<;>cases z2<;>cases z3<;>cases z4<;>simp
     rcases kz with rfl|⟨rfl,rfl⟩|⟨rfl,rfl,rfl⟩|⟨rfl,rfl,rfl,rfl⟩|⟨rfl,rfl,rfl,rfl⟩
     ·have HE:=D2 (by simp);clear D2 DE;repeat' (first|go_skip|(apply O ();go_step)|(apply kc ();refine sc (cR _ V) ?_;clear V;rintro v w ⟨rfl,V⟩)|apply sX ()|fail)
      go_ret;exact ⟨_,rfl,S1,hS1,by rw [HE.out];rfl,V.sub⟩
     ·have HE:=D2 (by simp);clear D2 DE;apply jP ()
     ·have HE:=D2 (by simp);clear D2 DE;apply jP ()
     ·have HE:=D2 (by simp);clear D2 DE;repeat' (first|apply sK ()|apply sG ()|(apply O ();go_step)|(apply kc ();refine sc (cR _ V) ?_;clear V;rintro v w ⟨rfl,V⟩)|(apply kc ();refine sc (cK _ V) ?_;clear V;rintro v w ⟨S2,hS2,rfl,V⟩)|apply sX ()|fail)
      go_ret;exact ⟨_,rfl,S2,hS1.trans hS2,by rw [HE.out];rfl,V.sub⟩
     ·have HE:=DE (by simp);clear D2 DE;have HSL:Hid ((Gv p).length≤100000):=Lib.hid (by rw [Mn,List.length_map];exact HP1.out.li);have cS:=fun {S' M} w (hS:S1.Le S') (V:St S' M w)=>aZ w V si sn p (HP1.out.mono hS)
      generalize Gv p=zs at *;repeat' ((apply ZZ 17);first|apply sK ()|apply sG ()|(apply O ();go_step)|(apply kc ();refine sc (cR _ V) ?_;clear V;rintro v w ⟨rfl,V⟩)|(apply kc ();refine sc (cK _ V) ?_;clear V;rintro v w ⟨S2,hS2,rfl,V⟩)|apply sX ()|fail)
      clear cR cK hz2 hz3 hz4;repeat' (first|(apply O ();go_step)|(apply kc ();refine sc (cS _ hS2 V) ?_;clear V;rintro v w ⟨S3,ss,hS3,rfl,hz3,V⟩)|apply sX ()|fail)
      have hszb:=HSZ.out rfl;have hszl:=HSL.out;have HB:=Lib.hid hszb;clear HSZ HSL cS hszb
      go_loopw [8,10] (fun u8 u10 wr=>∃ (i:Nat) (n:Int),i≤zs.length∧(1≤n∧n≤1024)∧u8=.int .i64 n∧u10=.int .i64 (i:Int)∧Hid (Ig (zs.drop i) n=Ig zs 1)∧St S3 (.box bx [.slice si.1 si.2.1 si.2.2,.slice sn.1 sn.2.1 sn.2.2,.int .i64 p.2.2.1,.int .i64 p.2.2.2.1] 87::M) wr) (fun _ v _=>zs.length - (intOf v).toNat)
      case atStart=>exact ⟨0,1,Nat.zero_le _,by omega,rfl,rfl,Lib.hid rfl,V⟩
      case round =>
       clear V;obtain ⟨i,n,hi4,hnb,rfl,rfl,HQ,V⟩:=hrel;by_cases hlt4:i < zs.length
       ·have hq:=fO hnb (HB.out zs[i] (List.getElem_mem hlt4));have HQ2:=HQ.out;rw [TH hlt4] at HQ2;by_cases hg:n * zs[i] > 1024
        ·rw [if_pos hg] at HQ2;have HE2:=HE.out;rw [← HQ2,if_pos rfl] at HE2;replace HE2:=Lib.hid HE2;clear HQ HQ2;repeat' (first|(apply tB ();refine Ag V (R6 rfl rfl ⟨by omega,by omega⟩) ?_<;>apply nW ())|(apply O ();go_step)|apply sX ()|(apply sN ();intro hI)|(apply sI ();intro v L)|fail)
         go_ret;exact ⟨_,rfl,S3,hS1.trans (hS2.trans hS3),by rw [HE2.out];rfl,V.sub⟩
        ·rw [if_neg hg] at HQ2;replace HQ2:=Lib.hid HQ2;clear HQ;repeat' (first|(apply tB ();refine Ag V (R6 rfl rfl ⟨by omega,by omega⟩) ?_<;>apply nW ())|(apply O ();go_step)|apply sX ()|(apply sN ();intro hI)|(apply sI ();intro v L)|fail)
         go_roundw
         case rel=>exact ⟨i+1,_,by omega,⟨hq.1,by omega⟩,rfl,by go_num,HQ2,V⟩
         case measure=>simp [intOf];omega
       ·have HQ2:=HQ.out;rw [List.drop_of_length_le (by omega),Ig] at HQ2;have HE2:=HE.out;rw [← HQ2,if_neg (by decide)] at HE2;replace HE2:=Lib.hid HE2;clear HQ HQ2;repeat' (first|(apply O ();go_step)|apply sX ()|fail)
        go_ret;exact ⟨_,rfl,S3,hS1.trans (hS2.trans hS3),by rw [HE2.out];rfl,V.sub⟩
end Go.Proofs.YtmmbidoldegemaaGreatDoor
