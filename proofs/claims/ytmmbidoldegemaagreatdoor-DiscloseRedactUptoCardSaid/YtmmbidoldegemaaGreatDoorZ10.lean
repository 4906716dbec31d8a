/- Part 11 of a proof; no conditions. -/
import Derived.Test.YtmmbidoldegemaaGreatDoorZ09
set_option linter.all false
set_option maxRecDepth 8000
set_option maxHeartbeats 8000000
namespace Go.Proofs.YtmmbidoldegemaaGreatDoor
open Go.RowKit Go.Sl Go.Proofs.Tryz
def eG (t:Tk):Bool:=t.1 == 3 && (decide (t.2.1.b=[40]) || decide (t.2.1.b=[123]))
def gE (t:Tk):Bool:=t.1 == 3 && (decide (t.2.1.b=[41]) || decide (t.2.1.b=[125]))
def WM (t:Tk) (n:Int):Int:=if eG t then n+1 else n
def WL (t:Tk) (n:Int):Int:=if gE t then n - 1 else n
theorem RD (t r n most):EO (t::r) n most=EO r (WL t (WM t n)) (max most (WL t (WM t n))):=by
 have h1:(if t.1=3∧(t.2.1.b=[40]∨t.2.1.b=[123]) then n+1 else n)=WM t n:=by
  unfold WM eG;by_cases h:t.1=3∧(t.2.1.b=[40]∨t.2.1.b=[123])
  ·rw [if_pos h,if_pos (by simpa using h)]
  ·rw [if_neg h,if_neg (by simpa using h)]
 have h2:∀ n,(if t.1=3∧(t.2.1.b=[41]∨t.2.1.b=[125]) then n - 1 else n)=WL t n:=by
  intro n;unfold WL gE;by_cases h:t.1=3∧(t.2.1.b=[41]∨t.2.1.b=[125])
  ·rw [if_pos h,if_pos (by simpa using h)]
  ·rw [if_neg h,if_neg (by simpa using h)]
 rw [EO];simp only [h1,h2]
theorem SG {S M} (w) (V:St S M w) (v l) (hl:RSl S v l) (hm:l.length≤1500):
  Ac prog 58 [v] w fun v w'=>v=.int .i64 (EO l 0 0)∧St S M w':=by
 unfold Ac;obtain ⟨R,hR⟩:∃ R,EO l 0 0=R:=⟨_,rfl⟩
 rw [hR];have HR:=Lib.hid hR;clear hR;obtain ⟨a,n,c,rfl⟩:=BQ hl;go_enter func58,ntmps58;repeat' (first|(apply O ();go_step)|fail)
 go_loopw [3,4,5] (fun u3 u4 u5 wr=>∃ (i:Nat) (n m:Int),i≤l.length∧u3=.int .i64 n∧u4=.int .i64 m∧u5=.int .i64 (i:Int)∧Hid (EO (l.drop i) n m=R)∧(-(i:Int)≤n∧n≤i∧0≤m∧m≤i)∧St S M wr) (fun _ _ v _=>l.length - (intOf v).toNat)
 case atStart=>exact ⟨0,0,0,Nat.zero_le _,rfl,rfl,rfl,HR,by omega,V⟩
 case round =>
  clear V HR;obtain ⟨i,n,m,hi,rfl,rfl,rfl,HR,hb,V⟩:=hrel;by_cases hlt:i < l.length
  ·have HN:=HR.out;rw [List.drop_eq_getElem_cons hlt,RD] at HN;replace HN:=Lib.hid HN;clear HR;unfold WL WM eG gE at HN;obtain ⟨z1,hz1⟩:∃ z,(l[i].1 == 3)=z:=⟨_,rfl⟩
   obtain ⟨z2,hz2⟩:∃ z,decide (l[i].2.1.b=[40])=z:=⟨_,rfl⟩
   obtain ⟨z3,hz3⟩:∃ z,decide (l[i].2.1.b=[123])=z:=⟨_,rfl⟩
   obtain ⟨z4,hz4⟩:∃ z,decide (l[i].2.1.b=[41])=z:=⟨_,rfl⟩
   obtain ⟨z5,hz5⟩:∃ z,decide (l[i].2.1.b=[125])=z:=⟨_,rfl⟩
   rw [hz1,hz2,hz3,hz4,hz5] at HN
   cases z1 with
   | false =>
    repeat' (first|apply sK ()|apply sG ()|(apply O ();go_step)|(apply kc ();refine Ag V (by first|exact EH X Ak Y|exact Fy rfl rfl) ?_<;>apply nW ())|(apply sN ();intro hI)|(apply sI ();intro v L)|fail)
    go_roundw
    case rel=>exact ⟨i+1,n,max m n,by omega,rfl,by congr 1,by go_num,HN,by omega,V⟩
    case measure=>simp [intOf];omega
   | true =>
    have kz:z2=true∨(z2=false∧z3=true)∨(z2=false∧z3=false):=by cases z2<;>cases z3<;>simp
    have kz2:z4=true∨(z4=false∧z5=true)∨(z4=false∧z5=false):=by cases z4<;>cases z5<;>simp
    rcases kz with rfl|⟨rfl,rfl⟩|⟨rfl,rfl⟩
    ·rcases kz2 with rfl|⟨rfl,rfl⟩|⟨rfl,rfl⟩
     ·simp only [Bool.true_and,Bool.true_or,Bool.or_true,Bool.or_self,Bool.false_or,Bool.or_false,if_true,if_false,Bool.false_eq_true] at HN;repeat' ((apply ZZ 8);first|(apply tB ();refine Ag V (AA rfl rfl Y hz2) ?_<;>apply nW ())|apply sK ()|apply sG ()|(apply O ();go_step)|(apply tL ();refine An V (AO X Ak Y) ?_;rintro v ⟨rfl,hs⟩<;>apply nW ())|apply sX ()|(apply sN ();intro hI)|(apply sI ();intro v L)|fail)
      apply j6 ()
     ·simp only [Bool.true_and,Bool.true_or,Bool.or_true,Bool.or_self,Bool.false_or,Bool.or_false,if_true,if_false,Bool.false_eq_true] at HN;repeat' ((apply ZZ 8);first|(apply tB ();refine Ag V (AA rfl rfl Y hz2) ?_<;>apply nW ())|apply sK ()|apply sG ()|(apply O ();go_step)|(apply tL ();refine An V (AO X Ak Y) ?_;rintro v ⟨rfl,hs⟩<;>apply nW ())|apply sX ()|(apply sN ();intro hI)|(apply sI ();intro v L)|fail)
      apply kn ()
     ·simp only [Bool.true_and,Bool.true_or,Bool.or_true,Bool.or_self,Bool.false_or,Bool.or_false,if_true,if_false,Bool.false_eq_true] at HN;repeat' ((apply ZZ 8);first|(apply tB ();refine Ag V (AA rfl rfl Y hz2) ?_<;>apply nW ())|apply sK ()|apply sG ()|(apply O ();go_step)|(apply tL ();refine An V (AO X Ak Y) ?_;rintro v ⟨rfl,hs⟩<;>apply nW ())|apply sX ()|(apply sN ();intro hI)|(apply sI ();intro v L)|fail)
      apply ke ()
    ·rcases kz2 with rfl|⟨rfl,rfl⟩|⟨rfl,rfl⟩
     ·simp only [Bool.true_and,Bool.true_or,Bool.or_true,Bool.or_self,Bool.false_or,Bool.or_false,if_true,if_false,Bool.false_eq_true] at HN;repeat' ((apply ZZ 8);first|(apply tB ();refine Ag V (AA rfl rfl Y hz2) ?_<;>apply nW ())|(apply tB ();refine Ag V (AA rfl rfl Y hz3) ?_<;>apply nW ())|apply sK ()|apply sG ()|(apply O ();go_step)|(apply tL ();refine An V (AO X Ak Y) ?_;rintro v ⟨rfl,hs⟩<;>apply nW ())|apply sX ()|(apply sN ();intro hI)|(apply sI ();intro v L)|fail)
      apply j6 ()
     ·simp only [Bool.true_and,Bool.true_or,Bool.or_true,Bool.or_self,Bool.false_or,Bool.or_false,if_true,if_false,Bool.false_eq_true] at HN;repeat' ((apply ZZ 8);first|(apply tB ();refine Ag V (AA rfl rfl Y hz2) ?_<;>apply nW ())|(apply tB ();refine Ag V (AA rfl rfl Y hz3) ?_<;>apply nW ())|apply sK ()|apply sG ()|(apply O ();go_step)|(apply tL ();refine An V (AO X Ak Y) ?_;rintro v ⟨rfl,hs⟩<;>apply nW ())|apply sX ()|(apply sN ();intro hI)|(apply sI ();intro v L)|fail)
      apply kn ()
     ·simp only [Bool.true_and,Bool.true_or,Bool.or_true,Bool.or_self,Bool.false_or,Bool.or_false,if_true,if_false,Bool.false_eq_true] at HN;repeat' ((apply ZZ 8);first|(apply tB ();refine Ag V (AA rfl rfl Y hz2) ?_<;>apply nW ())|(apply tB ();refine Ag V (AA rfl rfl Y hz3) ?_<;>apply nW ())|apply sK ()|apply sG ()|(apply O ();go_step)|(apply tL ();refine An V (AO X Ak Y) ?_;rintro v ⟨rfl,hs⟩<;>apply nW ())|apply sX ()|(apply sN ();intro hI)|(apply sI ();intro v L)|fail)
      apply ke ()
    ·rcases kz2 with rfl|⟨rfl,rfl⟩|⟨rfl,rfl⟩
     ·simp only [Bool.true_and,Bool.true_or,Bool.or_true,Bool.or_self,Bool.false_or,Bool.or_false,if_true,if_false,Bool.false_eq_true] at HN;repeat' ((apply ZZ 8);first|(apply tB ();refine Ag V (AA rfl rfl Y hz2) ?_<;>apply nW ())|(apply tB ();refine Ag V (AA rfl rfl Y hz3) ?_<;>apply nW ())|apply sK ()|apply sG ()|(apply O ();go_step)|(apply tL ();refine An V (AO X Ak Y) ?_;rintro v ⟨rfl,hs⟩<;>apply nW ())|apply sX ()|(apply sN ();intro hI)|(apply sI ();intro v L)|fail)
      repeat' (first|(apply tB ();refine Ag V (AA rfl rfl Y hz4) ?_<;>apply nW ())|apply sK ()|apply sG ()|(apply O ();go_step)|(apply tL ();refine An V (AO X Ak Y) ?_;rintro v ⟨rfl,hs⟩<;>apply nW ())|(apply kc ();refine Ag V (by exact Fy rfl rfl) ?_<;>apply nW ())|(apply sN ();intro hI)|(apply sI ();intro v L)|fail)
      apply jC ()
     ·simp only [Bool.true_and,Bool.true_or,Bool.or_true,Bool.or_self,Bool.false_or,Bool.or_false,if_true,if_false,Bool.false_eq_true] at HN;repeat' ((apply ZZ 8);first|(apply tB ();refine Ag V (AA rfl rfl Y hz2) ?_<;>apply nW ())|(apply tB ();refine Ag V (AA rfl rfl Y hz3) ?_<;>apply nW ())|apply sK ()|apply sG ()|(apply O ();go_step)|(apply tL ();refine An V (AO X Ak Y) ?_;rintro v ⟨rfl,hs⟩<;>apply nW ())|apply sX ()|(apply sN ();intro hI)|(apply sI ();intro v L)|fail)
      repeat' (first|(apply tB ();refine Ag V (AA rfl rfl Y hz4) ?_<;>apply nW ())|(apply tB ();refine Ag V (AA rfl rfl Y hz5) ?_<;>apply nW ())|apply sK ()|apply sG ()|(apply O ();go_step)|(apply tL ();refine An V (AO X Ak Y) ?_;rintro v ⟨rfl,hs⟩<;>apply nW ())|(apply kc ();refine Ag V (by exact Fy rfl rfl) ?_<;>apply nW ())|(apply sN ();intro hI)|(apply sI ();intro v L)|fail)
      apply jC ()
     ·simp only [Bool.true_and,Bool.true_or,Bool.or_true,Bool.or_self,Bool.false_or,Bool.or_false,if_true,if_false,Bool.false_eq_true] at HN;repeat' ((apply ZZ 8);first|(apply tB ();refine Ag V (AA rfl rfl Y hz2) ?_<;>apply nW ())|(apply tB ();refine Ag V (AA rfl rfl Y hz3) ?_<;>apply nW ())|apply sK ()|apply sG ()|(apply O ();go_step)|(apply tL ();refine An V (AO X Ak Y) ?_;rintro v ⟨rfl,hs⟩<;>apply nW ())|apply sX ()|(apply sN ();intro hI)|(apply sI ();intro v L)|fail)
      repeat' (first|(apply tB ();refine Ag V (AA rfl rfl Y hz4) ?_<;>apply nW ())|(apply tB ();refine Ag V (AA rfl rfl Y hz5) ?_<;>apply nW ())|apply sK ()|apply sG ()|(apply O ();go_step)|(apply tL ();refine An V (AO X Ak Y) ?_;rintro v ⟨rfl,hs⟩<;>apply nW ())|(apply kc ();refine Ag V (by exact Fy rfl rfl) ?_<;>apply nW ())|(apply sN ();intro hI)|(apply sI ();intro v L)|fail)
      go_roundw
      case rel=>exact ⟨i+1,n,max m n,by omega,by go_num,by go_num,by go_num,HN,by omega,V⟩
      case measure=>simp [intOf];omega
  ·have HN:=HR.out;rw [List.drop_of_length_le (by omega),EO] at HN;replace HN:=Lib.hid HN;clear HR;repeat' (first|(apply O ();go_step)|apply sX ()|fail)
   go_ret;exact ⟨_,rfl,by rw [HN.out];rfl,V⟩
abbrev VW (si sn:Sv) (root pts:Int):Value:=.agg #[.slice si.1 si.2.1 si.2.2,.slice sn.1 sn.2.1 sn.2.2,.int .i64 root,.int .i64 pts]
abbrev NT (S:Ad) (M:List J) (r:Pg×Int) (v:Value) (w:World):Prop :=
 ∃ S' si sn,S.Le S'∧v=.tuple #[VW si sn r.1.2.2.1 r.1.2.2.2.1,.int .i64 r.2]∧(RSl S' (Ar si) r.1.1∧RSl S' (Ar sn) r.1.2.1∧Au r.1.2.2.1∧Au r.1.2.2.2.1)∧St S' M w
theorem Kn {S S' M w e} (hS:S.Le S') (h:St S' M w):NT S M (KC,e) (.tuple #[VW (none,0,0) (none,0,0) 0 0,.int .i64 e]) w :=
 ⟨S',(none,0,0),(none,0,0),hS,rfl,⟨.inl ⟨none,0,rfl,rfl,by unfold maxLen;omega⟩,.inl ⟨none,0,rfl,rfl,by unfold maxLen;omega⟩,Ah (a:=0) (by decide),Ah (a:=0) (by decide)⟩,h⟩
theorem fI {S M} (w) (V:St S M w) (s) (hB:s.length≤1048576):
  Ac prog 35 [.string ⟨s.toArray⟩] w (NT S M (Cq s)):=by
 unfold Ac;have cT:=fun {M} w (V:St S M w)=>XI w V s hB
 have hm:=LY s;obtain ⟨R,hR⟩:∃ R,Cq s=R:=⟨_,rfl⟩
 have HR:=Lib.hid hR;rw [hR];unfold Cq at HR;clear hR;generalize CF s=q at *;obtain ⟨l,e⟩:=q;simp only at cT hm HR;by_cases he:e≠0
 ·rw [if_pos he] at HR;go_enter func35,ntmps35;repeat' (first|(apply O ();go_step)|(apply kc ();refine sc (cT _ V) ?_;clear V;rintro v w ⟨S1,so,hS1,rfl,hso,V⟩)|(apply sS ();clear V;intro w V)|(apply sA ();clear V;intro bk w V)|fail)
  apply jS ()
 ·obtain rfl:e=0:=Decidable.of_not_not he;rw [if_neg he] at HR;by_cases hd:EO l 0 0 > 30
  ·rw [if_pos hd] at HR;have cD:=fun {S M} (w:World) (V:St S M w) v hl=>SG (S:=S) (M:=M) w V v l hl hm
   generalize EO l 0 0=D at *;clear he;go_enter func35,ntmps35;repeat' ((apply ZZ 2);first|(apply O ();go_step)|(apply kc ();refine sc (cT _ V) ?_;clear V;rintro v w ⟨S1,so,hS1,rfl,hso,V⟩)|(apply sA ();clear V;intro bk w V)|fail)
   repeat' (first|(apply O ();go_step)|(apply kc ();refine sc (cD _ V _ hso) ?_;clear V;rintro v w ⟨rfl,V⟩)|(apply sS ();clear V;intro w V)|fail)
   apply jS ()
  ·rw [if_neg hd] at HR;have cD:=fun {S M} (w:World) (V:St S M w) v hl=>SG (S:=S) (M:=M) w V v l hl hm
   have hD:=hd;generalize EO l 0 0=D at *;clear he hd;obtain ⟨Xqq,hX⟩:∃ Xqq,B6 l (l.length+1) ⟨0,[],[],0⟩=Xqq:=⟨_,rfl⟩
   rw [hX] at HR;have HX:=Lib.hid hX;clear hX;go_enter func35,ntmps35;repeat' ((apply ZZ 1);first|(apply O ();go_step)|(apply sA ();clear V;intro bk w V)|fail)
   obtain ⟨b2,rfl⟩:∃ b,b=bk:=⟨_,rfl⟩
   repeat' ((apply ZZ 2);first|(apply O ();go_step)|(apply kc ();refine sc (cT _ V) ?_;clear V;rintro v w ⟨S1,so,hS1,rfl,hso,V⟩)|fail)
   clear cT;repeat' ((apply ZZ 6);first|(apply O ();go_step)|(apply kc ();refine sc (cD _ V _ hso) ?_;clear V;rintro v w ⟨rfl,V⟩)|fail)
   clear cD hD;have hi0:AL l 0 ⟨0,[],[],0⟩:=.inl ⟨Int.le_refl _,Int.natCast_nonneg _,Int.le_refl _,Int.le_refl _⟩;have hr0:=JN (l:=l) ⟨0,[],[],0⟩;repeat' (first|(apply O ();go_step)|(apply sS ();clear V;intro w V)|(apply sA ();clear V;intro bk w V)|fail)
   replace V:=(V.nil 97 4).swap
   go_loopw [28] (fun _ wr=>∃ (f:Nat) (x:PS) (si:Sv) (ci:List Value),Hid (B6 l f x=Xqq)∧AL l 0 x∧x.nds=[]∧(x.ins.length≤l.length+1∧(0≤x.k→(x.ins.length:Int)≤x.k))∧BY l x+1≤f∧RL S1 ci x.ins∧St S1 (.box bk (Pj so x.k si (none,0,0) x.pts) 132::.sl (Ar si) 97 4 x.ins.length ci::.box b2 [.slice none 0 0,.slice none 0 0,.int .i64 0,.int .i64 0] 87::M) wr) (fun _ wr=>Jd l.length (Sn wr (.pointer (some ⟨bk,0,none⟩))))
   case atStart=>exact ⟨l.length+1,⟨0,[],[],0⟩,(none,0,0),[],HX,hi0,rfl,⟨Nat.zero_le _,fun _=>Int.le_refl _⟩,by omega,RL.nil,V⟩
   case round =>
    clear V HX hi0 hr0;obtain ⟨f,x,si,ci,HX,hi,hnd,hol,hf,hR,V⟩:=hrel;have hk0:=Lib.hid (Hx (o:=0) (i:=0) V rfl);have cI:=fun {M} w (V:St S1 M w)=>Cr w V so si (none,0,0) x hso hm [105,110,112,117,116]
    cases hz:AS l x [105,110,112,117,116] with
    | true =>
     rw [hz] at cI;have L:=Fl hz;have hr:=LC L.1 L.2;obtain ⟨f,rfl⟩:∃ g,f=g+1:=⟨f - 1,by omega⟩
     have HN:=Lib.hid ((Qu (f:=f) hz).symm.trans HX.out);have cN:=fun {M} w (V:St S1 (.sl (Ar si) 97 4 x.ins.length ci::M) w)=>dy hm w so si (none,0,0) ci x V hR (by omega) hso
     have m3:=Ny hi;have m4:=Ue (l:=l) x;have m5:=Ir m4 m3.hi;have m6:=(Nx (l:=l) x).trans hnd;have m7:Hid ((C8 l x).ins.length=x.ins.length+1):=Lib.hid (by rw [Nz];simp);generalize C8 l x=y at *;have N4:=Lib.hid m4;have M3:=Lib.hid m3;have M6:=Lib.hid m6;have hlo:=hi.hi
     have HO:Hid (y.ins.length≤l.length+1∧(0≤y.k→(y.ins.length:Int)≤y.k)):=Lib.hid (by
      have h1:=hol.2 L.1;have h2:=m7.out;unfold BT at m4;exact ⟨by omega,fun h=>by omega⟩)
     clear m3 m4 m6 hz hnd hi HX hR hol;repeat' (first|(apply O ();go_step)|(apply kc ();refine sc (cI _ V) ?_;clear V;rintro v w ⟨rfl,V⟩)|(apply kc ();refine sc (cN _ (V.move (k:=1) rfl)) ?_;clear V;rintro v w ⟨si1,ci1,rfl,hR1,V⟩<;>(try replace V:=nH V))|apply sX ()|(apply sS ();clear V;intro w V)|fail)
     go_roundw
     case rel=>exact ⟨f,y,si1,ci1,HN,M3.out,M6.out,HO.out,by omega,hR1,V.swap⟩
     case measure =>
      have h1:=Hx (o:=0) (i:=1) V rfl;rw [hk0.out,h1];have h2:=N4.out;unfold BT at h2;exact Mw L.1 hlo (by omega) M3.out.hi
    | false =>
     rw [hz] at cI;have HE:=HX.out;rw [Ru hz] at HE;subst HE;clear hz HX;repeat' (first|(apply O ();go_step)|(apply kc ();refine sc (cI _ V) ?_;clear V;rintro v w ⟨rfl,V⟩)|apply sX ()|fail)
     clear cI hk0;obtain ⟨S2,hS2,hst2,hxi⟩:=St.freeze (α:=Ip) (V.move (k:=1) rfl) hR rfl;clear V;have V:=hst2;clear hst2;(try replace V:=nH V);replace V:=(V.nil 139 4).nil 3 1;replace hso:=hso.mono hS2;obtain ⟨R2,hR2⟩:∃ R2,Ft l (8 * l.length+8) (l.length+1) x []=R2:=⟨_,rfl⟩
     rw [hR2] at HR;have H2:=Lib.hid hR2;clear hR2 hR;have hrx:=JN (l:=l) x
     go_loopw [7] (fun u7 wr=>∃ (f:Nat) (y:PS) (of:List Int) (T:Ad) (sn s7:Sv) (cn co:List Value),S2.Le T∧u7=Ar s7∧Hid (Ft l (8 * l.length+8) f y of=R2)∧AL l 0 y∧Hid (y.ins=x.ins)∧BY l y+1≤f∧(of.length≤l.length+1∧(0≤y.k→(of.length:Int)≤y.k))∧RL T cn y.nds∧RL T co of∧St T (.sl (Ar s7) 3 1 of.length co::.sl (Ar sn) 139 4 y.nds.length cn::.box bk (Pj so y.k si sn y.pts) 132::.box b2 [.slice none 0 0,.slice none 0 0,.int .i64 0,.int .i64 0] 87::M) wr) (fun _ wr=>Jd l.length (Sn wr (.pointer (some ⟨bk,0,none⟩))))
     case atStart=>exact ⟨l.length+1,x,[],S2,(none,0,0),(none,0,0),[],[],.refl _,rfl,H2,hi,Lib.hid rfl,by omega,⟨Nat.zero_le _,fun h=>h⟩,by rw [hnd];exact RL.nil,RL.nil,by rw [hnd];exact V⟩
     case round =>
      clear V H2 hi hrx hnd hol hf;obtain ⟨f,y,of,T,sn,s7,cn,co,hT,rfl,H2,hi,HI,hf,hol,hR,hO,V⟩:=hrel;have hk0:=Lib.hid (Hx (o:=0) (i:=2) V rfl);obtain ⟨f,rfl⟩:∃ g,f=g+1:=⟨f - 1,by omega⟩
      have hone:=Go.Sl.AY V;have hsoT:RSl T (Ar so) l:=hso.mono hT;by_cases hk:0≤y.k∧y.k < l.length
      ·have L:=hk.1;have hp2:=hk.2;have hr:=LC L hp2;have HN:=Lib.hid ((UY (f:=f) (of:=of) hk).symm.trans H2.out);have hrl:=JN (l:=l) y;have cS:=fun {M} w (V:St T (.sl (Ar sn) 139 4 y.nds.length cn::M) w)=>(aQ hm (g:=8 * l.length+8) (by omega) (8 * l.length+8)).1 w so si sn cn y V hR (hso.mono hT) hi (by omega)
       have m3:=(ES (l:=l) (8 * l.length+8) (8 * l.length+8)).1 _ _ hi;have m4:=(Hm (l:=l) (8 * l.length+8) (8 * l.length+8)).1 y hi.lo;have m5:=Ir m4 m3.hi;have m6:=(OH (l:=l) (8 * l.length+8) (8 * l.length+8)).1 y;generalize Ce l (8 * l.length+8) (8 * l.length+8) y=q at *;have N4:=Lib.hid m4;have M3:=Lib.hid m3;have M6:=Lib.hid (m6.trans HI.out);have hlo:=hol.2 L
       have HO:Hid (∀ n:Nat,n=of.length+1→n≤l.length+1∧(0≤q.2.k→(n:Int)≤q.2.k)):=Lib.hid (by
        intro n hn;unfold BT at m4;exact ⟨by omega,fun h=>by omega⟩)
       clear m3 m4 m6 hi HI H2;repeat' ((apply ZZ 12);first|apply sG ()|(apply O ();go_step)|(apply kc ();refine sc (cS _ (V.move (k:=1) rfl)) ?_;clear V;rintro v w ⟨S3,sn3,cn3,hS3,rfl,hb3,hR3,V⟩<;>(try replace V:=nH V))|apply sX ()|(apply sS ();clear V;intro w V)|(apply sA ();clear V;intro bk w V)|fail)
       repeat' (first|(apply O ();go_step)|fail)
       refine Ay (vs:=[(.int .i64 q.1)]) V Y Y rfl rfl (by simp [Value.cells]) rfl (by omega) (by omega) ?_;clear V;intro u w V;refine nX ?_;refine AF (j:=0) V X X SlIn.h rfl Y Y Y (by simp [Value.cells,Value.oneCell']) (by omega) (by omega) (by decide) ?_;clear V;intro v' w V;refine nX ?_;(try replace V:=nH V);replace V:=V.drop;obtain ⟨ay,cy,rfl⟩:=Go.Sl.sl_formk (k:=2) V rfl;apply nW ();repeat' (first|(apply O ();go_step)|apply sX ()|(apply sS ();clear V;intro w V)|fail)
       go_roundw
       case rel=>exact ⟨f,q.2,of++[q.1],S3,sn3,(ay,of.length+1,cy),cn3,co++[.int .i64 q.1],hT.trans hS3,rfl,HN,M3.out,M6,by omega,HO.out _ (by simp),hR3,(hO.mono hS3).append (Cw (Ah hb3)),by simpa using St.swap V.sub⟩
       case measure =>
        have h1:=Hx (o:=0) (i:=3) V rfl;rw [hk0.out,h1];have h2:=N4.out;unfold BT at h2;exact Mw L (by omega) (by omega) M3.out.hi
      ·have HE:=H2.out;rw [XF hk] at HE;have HE:=Lib.hid HE;have hy1:=Dy (l:=l) (s:=0) (17,0,⟨[]⟩,of,()) (x:=y);have hI:=hi.nds;have hp0:=hi.pts0;have hp1:=hi.pts1;have hlo:=hi.lo;obtain ⟨S3,hS3,hst2,hxo⟩:=St.freeze (α:=Int) V hO rfl;have hcut:y.k < 0∨(0≤y.k∧(l.length:Int)≤y.k):=by omega
       clear V hk H2;have V:=hst2;clear hst2;have hso3:RSl S3 (Ar so) l:=hsoT.mono hS3;have cN:=fun {M} w (V:St S3 (.sl (Ar sn) 139 4 y.nds.length cn::M) w)=>EJ w so si sn cn y V (hR.mono hS3) (by omega) 17 0 ⟨[]⟩ s7 of (GQ (Ah (by decide)) (Ah (by decide)) (by decide) hxo)
       obtain ⟨r,hr⟩:∃ r,BA y (17,0,⟨[]⟩,of,())=r:=⟨_,rfl⟩
       have hrk:=(congrArg (fun r:Int×PS=>r.2.k) hr).symm.trans (EK y (17,0,⟨[]⟩,of,()));have hri:=(congrArg (fun r:Int×PS=>r.2.ins) hr).symm.trans (Dz y (17,0,⟨[]⟩,of,()));have hrp:r.2.pts=y.pts:=by rw [← hr];unfold BA;split<;>rfl
       rw [hr] at cN HE;have HF:=HR.out;rw [← HE.out] at HF;have HF:=Lib.hid HF;have HRI:=Lib.hid (hri.trans HI.out);have HRK:=Lib.hid hrk;have HRP:=Lib.hid hrp;clear hr hrk hri hrp HR HI HE hy1
       have hend:∀ (w':World) (S':Ad) (sn':Sv) (cn':List Value),S3.Le S'→0≤r.1∧r.1≤100000→RL S' cn' r.2.nds→St S' (.sl (Ar sn') 139 4 r.2.nds.length cn'::M) w'→r.2.k≥0→r.2.nds.length≤400→NT S M R (.tuple #[VW si sn' r.1 r.2.pts,.int .i64 0]) w':=by
        intro w' S' sn' cn' hS' hb hRL hst' h1 h2;rw [← HF.out];unfold Oo;rw [if_neg (by omega),if_neg (by omega)];obtain ⟨S4,hS4,hst4,hx4⟩:=St.freeze (α:=Nd) hst' hRL rfl;refine ⟨S4,si,sn',hS1.trans (hS2.trans (hT.trans (hS3.trans (hS'.trans hS4)))),rfl,⟨?_,hx4,Ah hb,?_⟩,hst4⟩
        ·rw [HRI.out];exact hxi.mono (hT.trans (hS3.trans (hS'.trans hS4)))
        ·show Au r.2.pts;rw [HRP.out];exact Ah ⟨by omega,by omega⟩
       have HEND:=Lib.hid hend
       have herr:∀ (w':World) (S':Ad),S3.Le S'→St S' M w'→r.2.k < 0→NT S M R (.tuple #[VW (none,0,0) (none,0,0) 0 0,.int .i64 3]) w':=by
        intro w' S' hS' hst' h1;rw [← HF.out];unfold Oo;rw [if_pos h1];exact Kn (hS1.trans (hS2.trans (hT.trans (hS3.trans hS')))) hst'
       have HERR:=Lib.hid herr
       have hbig:∀ (w':World) (S':Ad),S3.Le S'→St S' M w'→¬ r.2.k < 0→r.2.nds.length > 400→NT S M R (.tuple #[VW (none,0,0) (none,0,0) 0 0,.int .i64 2]) w':=by
        intro w' S' hS' hst' h1 h2;rw [← HF.out];unfold Oo;rw [if_neg h1,if_pos h2];exact Kn (hS1.trans (hS2.trans (hT.trans (hS3.trans hS')))) hst'
       have HBIG:=Lib.hid hbig;clear hend herr hbig HF HRI HRP HRK;rcases hcut with hcut|⟨hcut,hcut2⟩
       all_goals
        repeat' ((apply ZZ 15);first|apply sG ()|(with_reducible refine Sl.k_guard ?_;refine Sl.guard_cases rfl ?_ ?_<;>intro hg<;>first|exact gX|(simp only [hg,Bool.not_true,Bool.not_false])<;>(try replace hg:=gN hg)<;>apply nW ())|(apply O ();go_step)|(apply kc ();refine sc (cN _ (V.move (k:=0) rfl)) ?_;clear V;rintro v w ⟨S4,sn4,cn4,hS4,rfl,hb4,hR4,V⟩<;>(try replace V:=nH V))|apply sX ()|(apply sS ();clear V;intro w V)|(apply sA ();clear V;intro bk w V)|fail)
        by_cases h1:r.2.k < 0
        ·repeat' (first|(apply O ();go_step)|apply sX ()|(apply sS ();clear V;intro w V)|fail)
         refine Bc rfl (AZ V rfl _ N.h Y rfl rfl) (A8 rfl) ?_;(try simp only [AV,List.drop_zero,List.drop_succ_cons,List.take_succ_cons,List.take_zero,AB,Ap]);exact ⟨_,rfl,HERR.out _ S4 hS4 V.sub h1⟩
        ·by_cases h2:r.2.nds.length > 400
         ·have h3:(r.2.nds.length:Int) > 400:=by omega
          repeat' (first|(apply O ();go_step)|apply sX ()|(apply sS ();clear V;intro w V)|fail)
          refine Bc rfl (AZ V rfl _ N.h Y rfl rfl) (A8 rfl) ?_;(try simp only [AV,List.drop_zero,List.drop_succ_cons,List.take_succ_cons,List.take_zero,AB,Ap]);exact ⟨_,rfl,HBIG.out _ S4 hS4 V.sub h1 h2⟩
         ·have h3:(r.2.nds.length:Int)≤400:=by omega
          repeat' (first|(apply O ();go_step)|apply sX ()|(apply sS ();clear V;intro w V)|fail)
          refine Bc rfl (AZ V rfl _ N.h Y rfl rfl) (A8 rfl) ?_;(try simp only [AV,List.drop_zero,List.drop_succ_cons,List.take_succ_cons,List.take_zero,AB,Ap]);exact ⟨_,rfl,HEND.out _ S4 sn4 cn4 hS4 hb4 hR4 V.sub (by omega) (by omega)⟩
end Go.Proofs.YtmmbidoldegemaaGreatDoor
