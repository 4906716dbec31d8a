/- Part 9 of a proof; no conditions. -/
import Derived.Test.YtmmbidoldegemaaGreatDoorZ07
set_option linter.all false
set_option maxRecDepth 8000
set_option maxHeartbeats 8000000
namespace Go.Proofs.YtmmbidoldegemaaGreatDoor
open Go.RowKit Go.Sl
theorem Jo (c):0≤AX c∧AX c≤4:=by unfold AX;repeat' split;all_goals omega
theorem aN {s:List UInt8} {i a b} (h:(if i+2≤s.length then (s.drop i).take 2 else [])=[a,b]):i+2≤s.length:=by
 by_cases h2:i+2≤s.length
 ·exact h2
 ·rw [if_neg h2] at h;cases h
theorem PI (s) {i} (hi:i < s.length):Ey s i=0∨(1≤Ey s i∧i+Ey s i≤s.length):=by
 obtain ⟨R,hR⟩:∃ R,Ey s i=R:=⟨_,rfl⟩
 rw [hR];obtain ⟨T,hT⟩:∃ T,(if i+2≤s.length then (s.drop i).take 2 else [])=T:=⟨_,rfl⟩
 unfold Ey at hR;simp only [hT] at hR;split at hR
 ·rename_i h
  have:i+2≤s.length:=by
   rw [← hT] at h;rcases h with h|h|h|h<;>exact aN h
  omega
 ·split at hR<;>omega
theorem LM (s:List UInt8) (k:Int):∀ (f n:Nat),n≤s.length→n≤B8 s k f n∧B8 s k f n≤s.length
 | 0,n,h=>⟨Nat.le_refl _,h⟩
 | f+1,n,h=>by
  rw [B8];split
  ·simp only;split
   ·exact ⟨Nat.le_refl _,h⟩
   ·have:=LM s k f (n+1) (by omega);omega
  ·exact ⟨Nat.le_refl _,h⟩
theorem Pc {s k f n} (h:s.length≤n):B8 s k f n=n:=by
 cases f with
 | zero=>rfl
 | succ f=>rw [B8,if_neg (by omega)]
theorem SA {s k f n} (h) (hc:AX s[n]≠2∧(k≠1∨(AX s[n]≠1∧AX s[n]≠3))):B8 s k (f+1) n=n:=by
 rw [B8,if_pos h];have e:s.getD n 0=s[n]:=by rw [List.getD_eq_getElem?_getD,List.getElem?_eq_getElem h];rfl
 simp only [e];rw [if_pos hc]
theorem SB {s k f n} (h) (hc:¬ (AX s[n]≠2∧(k≠1∨(AX s[n]≠1∧AX s[n]≠3)))):B8 s k (f+1) n=B8 s k f (n+1):=by
 rw [B8,if_pos h];have e:s.getD n 0=s[n]:=by rw [List.getD_eq_getElem?_getD,List.getElem?_eq_getElem h];rfl
 simp only [e];rw [if_neg hc]
theorem Sc (w):GT w≤65535:=by unfold GT;repeat' split;all_goals omega
section
variable {s:List UInt8} {f i:Nat} {out:List Tk}
theorem RO (h:¬ i < s.length):CW s f i out=(out,0):=by
 cases f with
 | zero=>rfl
 | succ f=>rw [CW,if_neg h]
theorem Gt (h):s.getD i 0=s[i]:=by rw [List.getD_eq_getElem?_getD,List.getElem?_eq_getElem h];rfl
theorem UZ (h) (hc:AX s[i]=4):CW s (f+1) i out=CW s f (i+1) out:=by
 rw [CW,if_pos h];simp only [Gt h,hc];rfl
theorem U0 (h) (hc:AX s[i]=3):CW s (f+1) i out=([],3):=by
 rw [CW,if_pos h];simp only [Gt h,hc];rfl
theorem U2 (h) (hc:AX s[i]=0) (hn:Ey s i=0):CW s (f+1) i out=([],3):=by
 rw [CW,if_pos h];simp only [Gt h,hc,hn];rfl
theorem U1 (h) (hc:AX s[i]=0) (hn:Ey s i≠0):CW s (f+1) i out=CW s f (i+Ey s i) (out++[((3,⟨(s.drop i).take (Ey s i)⟩,0,(i:Int),()):Tk)]):=by
 rw [CW,if_pos h];simp only [Gt h,hc];rw [if_neg (by decide),if_neg (by decide),if_pos trivial,if_neg hn]
theorem RN (h) (hc:AX s[i]=1) (hn:B8 s 1 s.length (i+1) - i > 12):CW s (f+1) i out=([],3):=by
 rw [CW,if_pos h];simp only [Gt h,hc];rw [if_neg (by decide),if_neg (by decide),if_neg (by decide),if_pos ⟨trivial,hn⟩]
theorem RM (h) (hc:AX s[i]=1) (hn:¬ B8 s 1 s.length (i+1) - i > 12):CW s (f+1) i out=CW s f (B8 s 1 s.length (i+1)) (out++[((1,⟨(s.drop i).take (B8 s 1 s.length (i+1) - i)⟩,0,(i:Int),()):Tk)]):=by
 rw [CW,if_pos h];simp only [Gt h,hc];rw [if_neg (by decide),if_neg (by decide),if_neg (by decide),if_neg (fun e=>hn e.2),if_neg (by decide)]
def L8 (s:List UInt8) (n:Nat):Int:=if n < s.length then AX (s.getD n 0) else 0
theorem NZ (h) (hc:AX s[i]=2) (hn:GT ((s.drop i).take (B8 s 2 s.length (i+1) - i)) < 0∨L8 s (B8 s 2 s.length (i+1))=1∨L8 s (B8 s 2 s.length (i+1))=3):CW s (f+1) i out=([],3):=by
 rw [CW,if_pos h];simp only [Gt h,hc];rw [if_neg (by decide),if_neg (by decide),if_neg (by decide),if_neg (by rintro ⟨e,_⟩;cases e),if_pos trivial];exact if_pos hn
theorem NY (h) (hc:AX s[i]=2) (hn:¬ (GT ((s.drop i).take (B8 s 2 s.length (i+1) - i)) < 0∨L8 s (B8 s 2 s.length (i+1))=1∨L8 s (B8 s 2 s.length (i+1))=3)):CW s (f+1) i out=CW s f (B8 s 2 s.length (i+1)) (out++[((2,⟨(s.drop i).take (B8 s 2 s.length (i+1) - i)⟩,GT ((s.drop i).take (B8 s 2 s.length (i+1) - i)),(i:Int),()):Tk)]):=by
 rw [CW,if_pos h];simp only [Gt h,hc];rw [if_neg (by decide),if_neg (by decide),if_neg (by decide),if_neg (by rintro ⟨e,_⟩;cases e),if_pos trivial];exact if_neg hn
end
theorem Yz {S kd n i s} (h1:Au kd) (h2:s.b.length≤maxLen) (h3:Au n) (h4:Au i):Z.R S [.int .i64 kd,.string ⟨s.b.toArray⟩,.int .i64 n,.int .i64 i] ((kd,s,n,i,()):Tk) :=
 AG (cs:=[_]) ⟨rfl,h1⟩ (AG (cs:=[_]) ⟨rfl,h2⟩ (AG (cs:=[_]) ⟨rfl,h3⟩ (AG (cs:=[_]) ⟨rfl,h4⟩ CM)))
theorem ID {S}:RSl S (.slice none 0 0) ([]:List Tk):=.inl ⟨none,0,rfl,rfl,by unfold maxLen;omega⟩
section
variable {l:List Tk}
theorem Dz (x n):(BA x n).2.ins=x.ins:=by unfold BA;split<;>rfl
theorem Pb (f):(∀ x lv,(A0 l f x lv).2.ins=x.ins)∧(∀ a x lv,(opsP l f a x lv).2.ins=x.ins)∧∀ x,(unaryP l f x).2.ins=x.ins:=by
 induction f with
 | zero=>exact ⟨fun x lv=>by unfold A0;rfl,fun a x lv=>by unfold opsP;rfl,fun x=>by unfold unaryP;rfl⟩
 | succ f ih =>
  obtain ⟨i1,i2,i3⟩:=ih;refine ⟨fun x lv=>?_,fun a x lv=>?_,fun x=>?_⟩
  ·unfold A0;split
   ·exact i3 _
   ·exact (i2 _ _ _).trans (i1 _ _)
  ·unfold opsP;simp only;split
   ·have h1:=(Dz (A0 l f { x with k:=x.k+1 } (lv+1)).2 (CU l x lv,0,⟨[]⟩,[a,(A0 l f { x with k:=x.k+1 } (lv+1)).1],())).trans (i1 { x with k:=x.k+1 } (lv+1));split
    ·exact h1
    ·exact (i2 _ _ _).trans h1
   ·rfl
  ·unfold unaryP;split
   ·exact (Dz _ _).trans ((i3 _).trans (Bt _ _))
   ·split
    ·exact (Bt _ _).trans ((i1 _ _).trans (Bt _ _))
    ·split
     ·exact (Dz _ _).trans (B7 _).2.2
     ·exact (Dz _ _).trans (CP _).2.2
theorem Vp {f x}:(DB l f x).2.ins=x.ins:=by
 have e:=(Pb (l:=l) f).1;unfold DB;split
 ·exact (e _ 0).trans ((Bt _ _).trans ((CP _).2.2.trans (Bt _ _)))
 ·split
  ·exact (e _ 0).trans (Bt _ _)
  ·split
   ·exact (B7 _).2.2.trans (Bt _ _)
   ·exact Bt _ _
theorem OH (g f):(∀ x,(Ce l g f x).2.ins=x.ins)∧(∀ x,(blockP l g f x).2.ins=x.ins)∧∀ x of,(listP l g f x of).2.ins=x.ins:=by
 induction f with
 | zero=>exact ⟨fun x=>by unfold Ce;rfl,fun x=>by unfold blockP;rfl,fun x of=>by unfold listP;rfl⟩
 | succ f ih =>
  obtain ⟨i1,i2,i3⟩:=ih;have e:=(Pb (l:=l) g).1;refine ⟨fun x=>?_,fun x=>?_,fun x of=>?_⟩
  ·unfold Ce;split
   ·have h0:(Al l { x with pts:=x.pts+1 } [105,102]).ins=x.ins:=Bt (l:=l) { x with pts:=x.pts+1 } _;have h2:=(i2 _).trans ((e _ 0).trans h0);simp only;split
    ·exact (Dz _ _).trans ((i2 _).trans ((Bt _ _).trans h2))
    ·exact (Dz _ _).trans h2
   ·split
    ·exact (Dz _ _).trans ((i2 _).trans ((B7 _).2.2.trans (Bt _ _)))
    ·exact (Dz _ _).trans ((Bt _ _).trans Vp)
  ·unfold blockP;exact (i3 _ _).trans (Bt _ _)
  ·unfold listP;split
   ·exact (i3 _ _).trans (i1 _)
   ·exact (Dz _ _).trans (Bt _ _)
theorem Qu {f x} (h:AS l x [105,110,112,117,116]=true):B6 l (f+1) x=B6 l f (C8 l x):=by rw [B6,if_pos h]
theorem Ru {f x} (h:AS l x [105,110,112,117,116]=false):B6 l f x=x:=by
 cases f with
 | zero=>rfl
 | succ f=>rw [B6,if_neg (by rw [h];decide)]
theorem UY {g f} {x:PS} {of} (h:0≤x.k∧x.k < l.length):Ft l g (f+1) x of=Ft l g f (Ce l g g x).2 (of++[(Ce l g g x).1]):=by
 rw [Ft,if_pos h]
theorem XF {g f} {x:PS} {of} (h:¬ (0≤x.k∧x.k < l.length)):Ft l g (f+1) x of=BA x (17,0,⟨[]⟩,of,()):=by
 rw [Ft,if_neg h]
end
def Oo (r:Int×PS):Pg×Int:=if r.2.k < 0 then (KC,3) else if r.2.nds.length > 400 then (KC,2) else ((r.2.ins,r.2.nds,r.1,r.2.pts,()),0)
def Cq (s:List UInt8):Pg×Int :=
 if (CF s).2≠0 then (KC,(CF s).2)
 else if EO (CF s).1 0 0 > 30 then (KC,2)
 else Oo (Ft (CF s).1 (8 * (CF s).1.length+8) ((CF s).1.length+1) (B6 (CF s).1 ((CF s).1.length+1) ⟨0,[],[],0⟩) [])
theorem Iz (s:List UInt8):∀ (f i:Nat) (out:List Tk),i≤s.length→out.length≤i→(CW s f i out).1.length≤s.length
 | 0,i,out,h1,h2=>by show out.length≤_;omega
 | f+1,i,out,h1,h2=>by
  by_cases hlt:i < s.length
  ·have hs:=PI s hlt;have hcl:=Jo s[i];have he:∀ k,i+1≤B8 s k s.length (i+1)∧B8 s k s.length (i+1)≤s.length:=fun k=>LM s k s.length (i+1) hlt
   obtain h|h|h|h|h:AX s[i]=0∨AX s[i]=1∨AX s[i]=2∨AX s[i]=3∨AX s[i]=4:=by omega
   ·by_cases hn:Ey s i=0
    ·rw [U2 hlt h hn];exact Nat.zero_le _
    ·rw [U1 hlt h hn];exact Iz s f _ _ (by omega) (by simp only [List.length_append,List.length_cons,List.length_nil];omega)
   ·have:=he 1;by_cases hn:B8 s 1 s.length (i+1) - i > 12
    ·rw [RN hlt h hn];exact Nat.zero_le _
    ·rw [RM hlt h hn];exact Iz s f _ _ (by omega) (by simp only [List.length_append,List.length_cons,List.length_nil];omega)
   ·have:=he 2;by_cases hn:GT ((s.drop i).take (B8 s 2 s.length (i+1) - i)) < 0∨L8 s (B8 s 2 s.length (i+1))=1∨L8 s (B8 s 2 s.length (i+1))=3
    ·rw [NZ hlt h hn];exact Nat.zero_le _
    ·rw [NY hlt h hn];exact Iz s f _ _ (by omega) (by simp only [List.length_append,List.length_cons,List.length_nil];omega)
   ·rw [U0 hlt h];exact Nat.zero_le _
   ·rw [UZ hlt h];exact Iz s f _ _ (by omega) (by omega)
  ·rw [RO hlt];show out.length≤_;omega
theorem LY (s):(CF s).1.length≤1500:=by
 unfold CF;split
 ·exact Nat.zero_le _
 ·have:=Iz s (s.length+1) 0 [] (Nat.zero_le _) (Nat.zero_le _);omega
abbrev Fg:=Int×Int×Int×Unit
def K4:Nd:=(0,0,⟨[]⟩,[],())
def Az (ns:List Nd) (k:Int):Nd:=ns.getD k.toNat K4
def Ea (k:Int):Int:=if 1≤k∧k≤10 then 1 else if 11≤k∧k≤16 then 2 else if k=17 then 3 else 0
def EW (k:Int) (many:Nat):List Int :=
 if 3≤k∧k≤9 then [1,1]
 else if k=10∨k=11∨k=14 then [1]
 else if k=12 then (if many=3 then [1,3,3] else [1,3])
 else if k=13 then [3]
 else if k=17 then List.replicate many 2 else []
abbrev Wk:=Int×Int×Bool
def Ca (rec:Int→Wk→Wk) (ns:List Nd) (k:Int):List Int→List Int→Wk→Wk×Bool
 | o::os,c::cs,w =>
   if w.2.2 then (w,false)
   else if o < 0∨k≤o∨Ea (Az ns o).1≠c then ((w.1,w.2.1,true),true)
   else Ca rec ns k os cs (rec o w)
 | _,_,w=>(w,false)
def El (ns:List Nd):Nat→Int→Wk→Wk
 | 0,_,w=>(w.1,w.2.1,true)
 | f+1,k,w =>
   if Ea (Az ns k).1=0∨(EW (Az ns k).1 (Az ns k).2.2.2.1.length).length≠(Az ns k).2.2.2.1.length∨((Az ns k).1=12∧(Az ns k).2.1≠w.2.1) then (w.1,w.2.1,true)
   else
    let r:=Ca (El ns f) ns k (Az ns k).2.2.2.1 (EW (Az ns k).1 (Az ns k).2.2.2.1.length) (w.1,if (Az ns k).1=12 then w.2.1+1 else w.2.1,w.2.2)
    if r.2 then r.1 else (r.1.1+1,r.1.2.1,r.1.2.2 || r.1.1 != k)
def CV (p:Pg):Bool :=
 let n:=p.2.1.length
 if n=0∨n > 400∨p.2.2.1≠(n:Int) - 1 then false
 else if (Az p.2.1 ((n:Int) - 1)).1≠17 then false
 else if p.1.any (fun i=>decide (i.2.1 < 1∨i.2.1 > 4)) then false
 else
  let w:=El p.2.1 (n+1) ((n:Int) - 1) (0,0,false)
  !w.2.2 && decide (w.1=(n:Int)) && decide (w.2.1=p.2.2.2.1)
def HJ (p:Pg) (s:Cv):Bool:=p.1.any fun i=>decide (i.1=s)
def EL (s:Cv):List Nd→Int→Int
 | [],_=>-1
 | x::r,i=>if x.1=11∧x.2.2.1=s then i else EL s r (i+1)
def B0 (p:Pg) (s:Cv):Int:=EL s p.2.1 0
def Lm:List Ip→List Ip→Bool
 | _,[]=>false
 | pre,i::r=>pre.any (fun j=>decide (j.1=i.1)) || Lm (pre++[i]) r
def gC (xs:List Ip):Bool:=Lm [] xs
def Jz (p:Pg):List Nd→Int→Bool
 | [],_=>true
 | x::r,i =>
   let inn:=HJ p x.2.2.1
   if x.1=11∧inn then false
   else if x.1=2∧inn=false∧(B0 p x.2.2.1 < 0∨B0 p x.2.2.1 > i) then false
   else Jz p r (i+1)
def FD (p:Pg):Bool:=!gC p.1 && Jz p p.2.1 0
def A7 (p:Pg):Nat→Int→Int
 | 0,_=>0
 | f+1,k =>
   let x:=Az p.2.1 k
   if x.1≥6 then 2 else if x.1≠2 then 1 else if HJ p x.2.2.1 then 1
   else A7 p f ((Az p.2.1 (B0 p x.2.2.1)).2.2.2.1.getD 0 0)
def AU (x:Nd) (i:Nat):Int:=x.2.2.2.1.getD i 0
def A1 (p:Pg) (f:Nat) (x:Nd):Bool :=
 let t:=fun i=>A7 p f (AU x i)
 if 3≤x.1∧x.1≤6 then decide (t 0=1∧t 1=1)
 else if x.1=7 then decide (t 0=t 1)
 else if x.1=8∨x.1=9 then decide (t 0=2∧t 1=2)
 else if x.1=10∨x.1=12 then decide (t 0=2)
 else if x.1=11 then decide (t 0=A7 p f (AU (Az p.2.1 (B0 p x.2.2.1)) 0))
 else if x.1=14 then decide (t 0=1)
 else true
def G3 (p:Pg):Bool :=
 p.2.1.all (fun x=>!(decide (x.1=1∧¬ (0≤x.2.1∧x.2.1≤65535)) || decide (x.1=13∧¬ (1≤x.2.1∧x.2.1≤8)) || decide (x.1=15∧¬ (1≤x.2.1∧x.2.1≤255)))) &&
 p.1.all (fun x=>!(decide (x.2.1=1∧¬ (0≤x.2.2.1∧x.2.2.1≤7)) || decide (x.2.1=2∧(¬ (0≤x.2.2.1∧x.2.2.1≤3)∨¬ (1≤x.2.2.2.1∧x.2.2.2.1≤17))) || decide (x.2.1=4∧¬ (1≤x.2.2.2.1∧x.2.2.2.1≤1024))))
def C9 (a b:Int):Int:=if a+b > 3001 then 3001 else a+b
def FP (body:Int):Nat→Int→Int
 | 0,n=>n
 | f+1,n=>if n < 3001 then FP body f (C9 n body) else n
def Dj (rec:Int→Int):List Int→Int→Int
 | [],n=>n
 | o::os,n=>Dj rec os (C9 n (rec o))
def Bf (ns:List Nd):Nat→Int→Int
 | 0,_=>0
 | f+1,k =>
   let x:=Az ns k
   if x.1=17 then Dj (Bf ns f) x.2.2.2.1 0
   else if x.1=12 then
    let side:=Bf ns f (AU x 1)
    let side:=if x.2.2.2.1.length=3 then (let s:=C9 side 1;let o:=Bf ns f (AU x 2);if o > s then o else s) else side
    C9 (C9 (Bf ns f (AU x 0)) 1) side
   else if x.1=13 then FP (C9 (Bf ns f (AU x 0)) 1) x.2.1.toNat 2
   else Dj (Bf ns f) x.2.2.2.1 1
def Gv (p:Pg):List Int:=p.1.map fun i=>if i.2.1=1∨i.2.1=3 then 2 else i.2.2.2.1
def Ig:List Int→Int→Bool
 | [],_=>true
 | s::r,n=>if n * s > 1024 then false else Ig r (n * s)
def BH (p:Pg):Int :=
 let f:=p.2.1.length+1
 if CV p=false then 1
 else if FD p=false then 4
 else if p.2.1.all (A1 p f)=false then 5
 else if G3 p=false∨p.1.length > 6∨p.2.2.2.1 > 8∨C9 (Bf p.2.1 f p.2.2.1) 1 > 3000 then 2
 else if Ig (Gv p) 1=false then 2
 else 0
def Fo (s:Cv):List Cv→Int→Int
 | [],_=>-1
 | x::r,i=>if x=s then i else Fo s r (i+1)
def GZ (out:List Cv) (s:Cv):List Cv:=if Fo s out 0 < 0 then out++[s] else out
def C0 (p:Pg):List Cv:=(p.2.1.filter fun x=>decide (x.1=11)).foldl (fun o x=>GZ o x.2.2.1) (p.1.foldl (fun o i=>GZ o i.1) [])
def D9 (p:Pg) (k:Nat):Int:=((C0 p).length:Int)+(((p.2.1.take k).filter fun x=>decide (x.1=13)).length:Int)
def i1 (op a b:Int):List Fg:=[(op,a,b,())]
def Bz (rec:Int→Int→List Fg):List Int→Int→List Fg→List Fg
 | [],_,out=>out
 | o::os,pos,out=>Bz rec os pos (out++rec o (pos+out.length))
def Kl:List Int:=[0,0,0,4,5,6,7,8,9,10,11]
def AH (p:Pg):Nat→Int→Int→List Fg
 | 0,_,_=>[]
 | f+1,k,pos =>
   let n:=Az p.2.1 k
   if n.1=1 then i1 1 n.2.1 0
   else if n.1=2 then i1 2 (Fo n.2.2.1 (C0 p) 0) 0
   else if n.1=12 then
    let c:=AH p f (AU n 0) pos
    let a:=AH p f (AU n 1) (pos+c.length+1)
    let e:=pos+c.length+1+a.length
    if n.2.2.2.1.length=2 then c++i1 12 e n.2.1++a
    else
     let b:=AH p f (AU n 2) (e+1)
     c++i1 12 (e+1) n.2.1++a++i1 13 (e+1+b.length) 0++b
   else if n.1=13 then
    let b:=AH p f (AU n 0) (pos+2)
    i1 1 n.2.1 0++i1 3 (D9 p k.toNat) 0++b++i1 17 (D9 p k.toNat) (pos+2)
   else if n.1=15 then i1 15 n.2.1 0
   else if n.1=16 then i1 16 0 0
   else
    let out:=Bz (AH p f) n.2.2.2.1 pos []
    if n.1=11 then out++i1 3 (Fo n.2.2.1 (C0 p) 0) 0
    else if n.1=14 then out++i1 14 0 0
    else if n.1=17 then out
    else out++i1 (Kl.getD n.1.toNat 0) 0 0
def GE (p:Pg):(List Fg×Int×Int)×Int :=
 let e:=BH p
 if e≠0 then (([],0,0),e)
 else ((AH p (p.2.1.length+1) p.2.2.1 0++i1 16 0 0,D9 p p.2.1.length,p.2.2.2.1),0)
def Cy:Pg:=([(⟨[115]⟩,1,0,0,())],[(2,0,⟨[115]⟩,[],()),(1,1,⟨[]⟩,[],()),(7,0,⟨[]⟩,[0,1],()),(2,0,⟨[115]⟩,[],()),(1,0,⟨[]⟩,[],()),(7,0,⟨[]⟩,[3,4],()),(15,3,⟨[]⟩,[],()),(17,0,⟨[]⟩,[6],()),(12,1,⟨[]⟩,[5,7],()),(17,0,⟨[]⟩,[8],()),(12,0,⟨[]⟩,[2,9],()),(17,0,⟨[]⟩,[10],())],11,2,())
set_option maxRecDepth 100000 in
theorem Tt:BH Cy=0:=by decide
set_option maxRecDepth 100000 in
theorem OL:GE Cy=(([(2,0,0,()),(1,1,0,()),(8,0,0,()),(12,9,0,()),(2,0,0,()),(1,0,0,()),(8,0,0,()),(12,9,1,()),(15,3,0,()),(16,0,0,())],1,2),0):=by decide
end Go.Proofs.YtmmbidoldegemaaGreatDoor
namespace Go.Proofs.YtmmbidoldegemaaGreatDoor
open Go.RowKit Go.Sl Go.Proofs.Tryz
theorem Jp {S M} (w) (V:St S M w) (c):
  Ac prog 95 [.int .u8 (c.toNat:Int)] w fun v w'=>v=.int .i64 (AX c)∧St S M w':=by
 unfold Ac;have hc:=c.toNat_lt;obtain ⟨R,hR⟩:∃ R,AX c=R:=⟨_,rfl⟩
 have HR:=Lib.hid hR;rw [hR];clear hR;generalize hn:c.toNat=n at *;have HN:=Lib.hid hn;clear hn;go_enter func95,ntmps95;repeat' (first|go_skip|apply sG ()|(with_reducible refine Sl.k_guard ?_;refine Sl.guard_cases rfl ?_ ?_<;>intro hg<;>first|exact gX|(simp only [hg,Bool.not_true,Bool.not_false])<;>(try replace hg:=gN hg)<;>apply nW ())|(apply O ();go_step)|fail)
 all_goals
  go_ret;refine ⟨_,rfl,?_,V⟩;have h:=HR.out;unfold AX at h;rw [HN.out] at h;rw [← h];(try simp only [beq_iff_eq,beq_eq_false_iff_ne,ne_eq] at *)
  first
   | (rw [if_pos (by omega)];rfl)
   | (rw [if_neg (by omega),if_pos (by omega)];rfl)
   | (rw [if_neg (by omega),if_neg (by omega),if_pos (by omega)];rfl)
   | (rw [if_neg (by omega),if_neg (by omega),if_neg (by omega),if_pos (by omega)];rfl)
   | (rw [if_neg (by omega),if_neg (by omega),if_neg (by omega),if_neg (by omega)];rfl)
theorem V4 (b:List UInt8) {i} (h):K2 (b.take (i+1))=10 * K2 (b.take i)+((b[i]).toNat:Int) - 48:=by
 rw [List.take_succ_eq_append_getElem h,K2,List.foldl_append];rfl
theorem lp {i} (h:i≤5):10 ^ i≤100000:=Nat.le_trans (Nat.pow_le_pow_right (by omega) h) (by decide)
theorem No {S M} (w) (V:St S M w) (b) (h0:0 < b.length) (hB:b.length≤1048576):
  Ac prog 97 [.string ⟨b.toArray⟩] w fun v w'=>v=.int .i64 (GT b)∧St S M w':=by
 unfold Ac;by_cases hbad:b.length > 5∨(b.getD 0 0=48∧b.length > 1)
 ·have HR:Hid (GT b = -1):=Lib.hid (if_pos hbad);have hq:b.getD 0 0=b[0]:=by rw [List.getD_eq_getElem?_getD,List.getElem?_eq_getElem h0];rfl
  obtain ⟨z,hz⟩:∃ z,(((b[0]).toNat:Int) == 48)=z:=⟨_,rfl⟩
  have hz2:b.length > 5∨(z=true∧b.length > 1):=by
   rcases hbad with h|⟨h1,h2⟩
   ·exact .inl h
   ·refine .inr ⟨?_,h2⟩;rw [← hz,← hq,h1];rfl
  clear hbad hq;by_cases h5:b.length > 5
  ·go_enter func97,ntmps97;repeat' (first|go_skip|(with_reducible refine Sl.k_guard ?_;(refine Sl.guard_cases rfl ?_ ?_<;>intro hg<;>first|exact gX|(simp only [hg,Bool.not_true,Bool.not_false]))<;>(try replace hg:=gN hg)<;>apply nW ())|(apply O ();go_step)|(apply kc ();refine Ag V (by exact AW X Y) ?_<;>apply nW ())|fail)
   go_ret;exact ⟨_,rfl,by rw [HR.out];rfl,V⟩
  ·obtain ⟨rfl,h1⟩:=hz2.resolve_left h5;go_enter func97,ntmps97;repeat' (first|apply sG ()|(with_reducible refine Sl.k_guard ?_;refine Sl.guard_cases rfl ?_ ?_<;>intro hg<;>first|exact gX|(simp only [hg,Bool.not_true,Bool.not_false])<;>(try replace hg:=gN hg)<;>apply nW ())|(apply tX ();refine Ag V (by exact Cd X X StrT.u Af Af) ?_<;>apply nW ())|apply sK ()|(apply O ();go_step)|(apply kc ();refine Ag V (by exact AW X Y) ?_<;>apply nW ())|fail)
   go_ret;exact ⟨_,rfl,by rw [HR.out];rfl,V⟩
 ·have HR0:GT b=if K2 b > 65535 then -1 else K2 b:=if_neg hbad;have h5:b.length≤5:=by omega
  have hq:b.getD 0 0=b[0]:=by rw [List.getD_eq_getElem?_getD,List.getElem?_eq_getElem h0];rfl
  obtain ⟨z,hz⟩:∃ z,(((b[0]).toNat:Int) == 48)=z:=⟨_,rfl⟩
  have hz2:z=false∨¬ b.length > 1:=by
   cases z with
   | false=>exact .inl rfl
   | true =>
    refine .inr fun h=>hbad (.inr ⟨?_,h⟩)
    rw [hq];have:(b[0]).toNat=48:=by have:=of_decide_eq_true (p:=((b[0]).toNat:Int)=48) (by simpa using hz);omega
    exact UInt8.toNat_inj.1 this
  obtain ⟨R,hR⟩:∃ R,GT b=R:=⟨_,rfl⟩
  rw [hR];have HR:=Lib.hid (hR.symm.trans HR0);clear hR HR0 hbad hq;have hz3:(z=false)∨(z=true∧¬ b.length > 1):=by cases z<;>simp_all
  clear hz2;rcases hz3 with rfl|⟨rfl,h1⟩
  all_goals
   go_enter func97,ntmps97;repeat' (first|go_skip|apply sG ()|(with_reducible refine Sl.k_guard ?_;refine Sl.guard_cases rfl ?_ ?_<;>intro hg<;>first|exact gX|(simp only [hg,Bool.not_true,Bool.not_false])<;>(try replace hg:=gN hg)<;>apply nW ())|(apply tX ();refine Ag V (by exact Cd X X StrT.u Af Af) ?_<;>apply nW ())|apply sK ()|(apply O ();go_step)|(apply kc ();refine Ag V (by exact AW X Y) ?_<;>apply nW ())|fail)
   go_loopw [3,4] (fun u v wr=>∃ (i:Nat) (n:Int) (P:Nat),i≤b.length∧v=.int .i64 i∧u=.int .i64 n∧Hid (n=K2 (b.take i))∧Hid (P=10 ^ i)∧P≤100000∧-(30 * (P:Int))+30≤n∧n≤30 * (P:Int) - 30∧St S M wr) (fun _ v _=>b.length - (intOf v).toNat)
   case atStart=>exact ⟨0,0,1,Nat.zero_le _,rfl,rfl,Lib.hid rfl,Lib.hid rfl,by omega,by omega,by omega,V⟩
   case round =>
    clear V;obtain ⟨i,n,P,hi,rfl,rfl,hn,hP,hP5,hl1,hl2,V⟩:=hrel;by_cases hlt:i < b.length
    ·have hby:=(b[i]).toNat_lt;have hnx:=Lib.hid ((V4 b hlt).trans (by rw [← hn.out]));have hPn:Hid (10 * P=10 ^ (i+1)):=Lib.hid (by rw [hP.out,Nat.pow_succ];omega);have hP6:10 * P≤100000:=by rw [hPn.out];exact lp (by omega)
     repeat' (first|(apply tX ();refine Ag V (by exact Cd X X StrT.u Af Af) ?_<;>apply nW ())|(apply O ();go_step)|(apply kc ();refine Ag V (by exact AW X Y) ?_<;>apply nW ())|fail)
     go_roundw
     case rel=>exact ⟨i+1,10 * n+((b[i]).toNat:Int) - 48,10 * P,by omega,by go_num,by go_num,Lib.hid hnx.out.symm,hPn,hP6,by omega,by omega,V⟩
     case measure=>simp [intOf];omega
    ·have he:=hn.out;rw [List.take_of_length_le (by omega)] at he;have hr:=HR.out;rw [← he] at hr;have Hr:=Lib.hid hr;clear he hr hn HR hP;by_cases hbig:n > 65535
     ·repeat' (first|(apply O ();go_step)|(apply kc ();refine Ag V (by exact AW X Y) ?_<;>apply nW ())|fail)
      go_ret;exact ⟨_,rfl,by rw [Hr.out,if_pos hbig];rfl,V⟩
     ·repeat' (first|(apply O ();go_step)|(apply kc ();refine Ag V (by exact AW X Y) ?_<;>apply nW ())|fail)
      go_ret;exact ⟨_,rfl,by rw [Hr.out,if_neg hbig];rfl,V⟩
theorem X8 {S M} (w) (V:St S M w) (b:List UInt8) (i) (hi:i < b.length) (hB:b.length≤1048576):
  Ac prog 96 [.string ⟨b.toArray⟩,.int .i64 (i:Int)] w fun v w'=>v=.int .i64 (Ey b i:Int)∧St S M w':=by
 unfold Ac;obtain ⟨T,hT⟩:∃ T,(if i+2≤b.length then (b.drop i).take 2 else [])=T:=⟨_,rfl⟩
 have hq:b.getD i 0=b[i]:=by rw [List.getD_eq_getElem?_getD,List.getElem?_eq_getElem hi];rfl
 obtain ⟨R,hR⟩:∃ R,Ey b i=R:=⟨_,rfl⟩
 have HR:=hR;unfold Ey at HR;simp only [hT,hq] at HR;rw [hR];clear hR hq;obtain ⟨z1,hz1⟩:∃ z,decide (T=[61,61])=z:=⟨_,rfl⟩
 obtain ⟨z2,hz2⟩:∃ z,decide (T=[38,38])=z:=⟨_,rfl⟩
 obtain ⟨z3,hz3⟩:∃ z,decide (T=[124,124])=z:=⟨_,rfl⟩
 obtain ⟨z4,hz4⟩:∃ z,decide (T=[62,61])=z:=⟨_,rfl⟩
 have hby:=(b[i]).toNat_lt
 have kz:z1=true∨(z1=false∧z2=true)∨(z1=false∧z2=false∧z3=true)∨(z1=false∧z2=false∧z3=false∧z4=true)∨(z1=false∧z2=false∧z3=false∧z4=false):=by
  cases z1<;>cases z2<;>cases z3<;>cases z4<;>simp
 have hyes:(z1=true∨z2=true∨z3=true∨z4=true)→Hid (R=2):=fun h=>Lib.hid (by
  rw [← HR];refine if_pos ?_;rcases h with rfl|rfl|rfl|rfl
  ·exact .inl (of_decide_eq_true hz1)
  ·exact .inr (.inl (of_decide_eq_true hz2))
  ·exact .inr (.inr (.inl (of_decide_eq_true hz3)))
  ·exact .inr (.inr (.inr (of_decide_eq_true hz4))))
 have hno:z1=false→z2=false→z3=false→z4=false→Hid (R=if (b[i]).toNat=123∨(b[i]).toNat=125∨(b[i]).toNat=40∨(b[i]).toNat=41∨(b[i]).toNat=59∨(b[i]).toNat=61∨(b[i]).toNat=43∨(b[i]).toNat=45∨(b[i]).toNat=42∨(b[i]).toNat=60∨(b[i]).toNat=33 then 1 else 0):=fun h1 h2 h3 h4=>Lib.hid (by
  rw [← HR];refine if_neg ?_;rintro (h|h|h|h)
  ·rw [decide_eq_true h] at hz1;cases hz1.trans h1
  ·rw [decide_eq_true h] at hz2;cases hz2.trans h2
  ·rw [decide_eq_true h] at hz3;cases hz3.trans h3
  ·rw [decide_eq_true h] at hz4;cases hz4.trans h4)
 clear HR;by_cases h2:i+2≤b.length
 ·rw [if_pos h2] at hT;have e2:(b.drop i).take (i+2 - i)=T:=by rw [Nat.add_sub_cancel_left,hT]
  clear hT
  have cT:∀ {P:Program} {l:List Value} {ty:TypeId} {x y z:Operand},Ai l x=.string ⟨b.toArray⟩→Ai l y=.int .i64 (i:Int)→Ai l z=.int .i64 ((i:Int)+2)→StrT P ty→Qt P l (.slice ty x (some y) (some z) none) S M (.string ⟨T.toArray⟩):=fun hx hy hz hT=>by
   have:=GR (S:=S) (M:=M) (i:=i) (m:=i+2) hx hy hz rfl (by omega) hT (by omega) h2;rwa [e2] at this
  clear e2;rcases kz with rfl|⟨rfl,rfl⟩|⟨rfl,rfl,rfl⟩|⟨rfl,rfl,rfl,rfl⟩|⟨rfl,rfl,rfl,rfl⟩
  rotate_right
  ·have hE:=hno rfl rfl rfl rfl;clear hyes hno;go_enter func96,ntmps96;repeat' (first|(with_reducible (refine Ag V (cT rfl rfl rfl Y) ?_)<;>apply nW ())|(apply tB ();refine Ag V (AA rfl rfl Y hz1) ?_<;>apply nW ())|(apply tB ();refine Ag V (AA rfl rfl Y hz2) ?_<;>apply nW ())|(apply tB ();refine Ag V (AA rfl rfl Y hz3) ?_<;>apply nW ())|(apply tB ();refine Ag V (AA rfl rfl Y hz4) ?_<;>apply nW ())|(apply tX ();refine Ag V (by exact Cd X X StrT.u Af Af) ?_<;>apply nW ())|(apply O ();go_step)|(apply kc ();refine Ag V (by exact AW X Y) ?_<;>apply nW ())|fail)
   all_goals
    apply jK ()
  all_goals
   have hE:=hyes (by simp);clear hyes hno;go_enter func96,ntmps96;repeat' (first|(with_reducible (refine Ag V (cT rfl rfl rfl Y) ?_)<;>apply nW ())|(apply tB ();refine Ag V (AA rfl rfl Y hz1) ?_<;>apply nW ())|(apply tB ();refine Ag V (AA rfl rfl Y hz2) ?_<;>apply nW ())|(apply tB ();refine Ag V (AA rfl rfl Y hz3) ?_<;>apply nW ())|(apply tB ();refine Ag V (AA rfl rfl Y hz4) ?_<;>apply nW ())|(apply O ();go_step)|(apply kc ();refine Ag V (by exact AW X Y) ?_<;>apply nW ())|fail)
   go_ret;exact ⟨_,rfl,by rw [hE.out];rfl,V⟩
 ·rw [if_neg h2] at hT;subst hT;have hE:=hno (by rw [← hz1];rfl) (by rw [← hz2];rfl) (by rw [← hz3];rfl) (by rw [← hz4];rfl);clear hyes hno kz hz1 hz2 hz3 hz4;have hz1:decide (([]:List UInt8)=[61,61])=false:=rfl;have hz2:decide (([]:List UInt8)=[38,38])=false:=rfl;have hz3:decide (([]:List UInt8)=[124,124])=false:=rfl;have hz4:decide (([]:List UInt8)=[62,61])=false:=rfl;go_enter func96,ntmps96;repeat' (first|(apply tB ();refine Ag V (AA rfl rfl Y hz1) ?_<;>apply nW ())|(apply tB ();refine Ag V (AA rfl rfl Y hz2) ?_<;>apply nW ())|(apply tB ();refine Ag V (AA rfl rfl Y hz3) ?_<;>apply nW ())|(apply tB ();refine Ag V (AA rfl rfl Y hz4) ?_<;>apply nW ())|(apply tX ();refine Ag V (by exact Cd X X StrT.u Af Af) ?_<;>apply nW ())|(apply O ();go_step)|(apply kc ();refine Ag V (by exact AW X Y) ?_<;>apply nW ())|fail)
  all_goals
   apply jK ()
end Go.Proofs.YtmmbidoldegemaaGreatDoor
