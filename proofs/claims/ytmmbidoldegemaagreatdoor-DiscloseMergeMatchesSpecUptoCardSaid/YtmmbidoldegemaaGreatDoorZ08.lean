/- Part 9 of the proof that the law of the last part holds; no conditions. -/
import Derived.Test.YtmmbidoldegemaaGreatDoorZ07
set_option linter.unusedSimpArgs false
set_option linter.unusedVariables false
set_option maxRecDepth 8000
set_option maxHeartbeats 8000000
namespace Go.Proofs.YtmmbidoldegemaaGreatDoor
open Go.RowKit Go.Sl
theorem IF (c:UInt8):0≤AU c∧AU c≤4:=by unfold AU;repeat' split;all_goals omega
theorem Zd {s:List UInt8} {i:Nat} {a b:UInt8} (h:(if i+2≤s.length then (s.drop i).take 2 else [])=[a,b]):i+2≤s.length:=by
 by_cases h2:i+2≤s.length
 ·exact h2
 ·rw [if_neg h2] at h;cases h
theorem OJ (s:List UInt8) {i:Nat} (hi:i < s.length):Eb s i=0∨(1≤Eb s i∧i+Eb s i≤s.length):=by
 obtain ⟨R,hR⟩:∃ R,Eb s i=R:=⟨_,rfl⟩
 rw [hR];obtain ⟨T,hT⟩:∃ T,(if i+2≤s.length then (s.drop i).take 2 else [])=T:=⟨_,rfl⟩
 unfold Eb at hR;simp only [hT] at hR;split at hR
 ·rename_i h
  have:i+2≤s.length:=by
   rw [← hT] at h;rcases h with h|h|h|h<;>exact Zd h
  omega
 ·split at hR<;>omega
theorem KU (s:List UInt8) (k:Int):∀ (f n:Nat),n≤s.length→n≤BU s k f n∧BU s k f n≤s.length
 | 0,n,h=>⟨Nat.le_refl _,h⟩
 | f+1,n,h=>by
  rw [BU];split
  ·simp only;split
   ·exact ⟨Nat.le_refl _,h⟩
   ·have:=KU s k f (n+1) (by omega);omega
  ·exact ⟨Nat.le_refl _,h⟩
theorem Oe {s:List UInt8} {k:Int} {f n:Nat} (h:s.length≤n):BU s k f n=n:=by
 cases f with
 | zero=>rfl
 | succ f=>rw [BU,if_neg (by omega)]
theorem Rt {s:List UInt8} {k:Int} {f n:Nat} (h:n < s.length) (hc:AU s[n]≠2∧(k≠1∨(AU s[n]≠1∧AU s[n]≠3))):BU s k (f+1) n=n:=by
 rw [BU,if_pos h];have e:s.getD n 0=s[n]:=by rw [List.getD_eq_getElem?_getD,List.getElem?_eq_getElem h];rfl
 simp only [e];rw [if_pos hc]
theorem Ru {s:List UInt8} {k:Int} {f n:Nat} (h:n < s.length) (hc:¬ (AU s[n]≠2∧(k≠1∨(AU s[n]≠1∧AU s[n]≠3)))):BU s k (f+1) n=BU s k f (n+1):=by
 rw [BU,if_pos h];have e:s.getD n 0=s[n]:=by rw [List.getD_eq_getElem?_getD,List.getElem?_eq_getElem h];rfl
 simp only [e];rw [if_neg hc]
theorem Q6 (w:List UInt8):Gl w≤65535:=by unfold Gl;repeat' split;all_goals omega
section
variable {s:List UInt8} {f i:Nat} {out:List Tk}
theorem QH (h:¬ i < s.length):CI s f i out=(out,0):=by
 cases f with
 | zero=>rfl
 | succ f=>rw [CI,if_neg h]
theorem FS (h:i < s.length):s.getD i 0=s[i]:=by rw [List.getD_eq_getElem?_getD,List.getElem?_eq_getElem h];rfl
theorem TK (h:i < s.length) (hc:AU s[i]=4):CI s (f+1) i out=CI s f (i+1) out:=by
 rw [CI,if_pos h];simp only [FS h,hc];rfl
theorem TL (h:i < s.length) (hc:AU s[i]=3):CI s (f+1) i out=([],3):=by
 rw [CI,if_pos h];simp only [FS h,hc];rfl
theorem TN (h:i < s.length) (hc:AU s[i]=0) (hn:Eb s i=0):CI s (f+1) i out=([],3):=by
 rw [CI,if_pos h];simp only [FS h,hc,hn];rfl
theorem TM (h:i < s.length) (hc:AU s[i]=0) (hn:Eb s i≠0):CI s (f+1) i out=CI s f (i+Eb s i) (out++[((3,⟨(s.drop i).take (Eb s i)⟩,0,(i:Int),()):Tk)]):=by
 rw [CI,if_pos h];simp only [FS h,hc];rw [if_neg (by decide),if_neg (by decide),if_pos trivial,if_neg hn]
theorem QG (h:i < s.length) (hc:AU s[i]=1) (hn:BU s 1 s.length (i+1) - i > 12):CI s (f+1) i out=([],3):=by
 rw [CI,if_pos h];simp only [FS h,hc];rw [if_neg (by decide),if_neg (by decide),if_neg (by decide),if_pos ⟨trivial,hn⟩]
theorem QF (h:i < s.length) (hc:AU s[i]=1) (hn:¬ BU s 1 s.length (i+1) - i > 12):CI s (f+1) i out=CI s f (BU s 1 s.length (i+1)) (out++[((1,⟨(s.drop i).take (BU s 1 s.length (i+1) - i)⟩,0,(i:Int),()):Tk)]):=by
 rw [CI,if_pos h];simp only [FS h,hc];rw [if_neg (by decide),if_neg (by decide),if_neg (by decide),if_neg (fun e=>hn e.2),if_neg (by decide)]
def Ld (s:List UInt8) (n:Nat):Int:=if n < s.length then AU (s.getD n 0) else 0
theorem MX (h:i < s.length) (hc:AU s[i]=2) (hn:Gl ((s.drop i).take (BU s 2 s.length (i+1) - i)) < 0∨Ld s (BU s 2 s.length (i+1))=1∨Ld s (BU s 2 s.length (i+1))=3):CI s (f+1) i out=([],3):=by
 rw [CI,if_pos h];simp only [FS h,hc];rw [if_neg (by decide),if_neg (by decide),if_neg (by decide),if_neg (by rintro ⟨e,_⟩;cases e),if_pos trivial];exact if_pos hn
theorem MW (h:i < s.length) (hc:AU s[i]=2) (hn:¬ (Gl ((s.drop i).take (BU s 2 s.length (i+1) - i)) < 0∨Ld s (BU s 2 s.length (i+1))=1∨Ld s (BU s 2 s.length (i+1))=3)):CI s (f+1) i out=CI s f (BU s 2 s.length (i+1)) (out++[((2,⟨(s.drop i).take (BU s 2 s.length (i+1) - i)⟩,Gl ((s.drop i).take (BU s 2 s.length (i+1) - i)),(i:Int),()):Tk)]):=by
 rw [CI,if_pos h];simp only [FS h,hc];rw [if_neg (by decide),if_neg (by decide),if_neg (by decide),if_neg (by rintro ⟨e,_⟩;cases e),if_pos trivial];exact if_neg hn
end
theorem Xc {S:Ac} {kd n i:Int} {s:By} (h1:Au kd) (h2:s.b.length≤maxLen) (h3:Au n) (h4:Au i):Rep.R S [.int .i64 kd,.string ⟨s.b.toArray⟩,.int .i64 n,.int .i64 i] ((kd,s,n,i,()):Tk) :=
 Ay (cs:=[_]) ⟨rfl,h1⟩ (Ay (cs:=[_]) ⟨rfl,h2⟩ (Ay (cs:=[_]) ⟨rfl,h3⟩ (Ay (cs:=[_]) ⟨rfl,h4⟩ Cf)))
theorem Jq {S:Ac}:RSl S (.slice none 0 0) ([]:List Tk):=.inl ⟨none,0,rfl,rfl,by unfold maxLen;omega⟩
section
variable {l:List Tk}
theorem Df (x:PS) (n:Nd):(Bs x n).2.ins=x.ins:=by unfold Bs;split<;>rfl
theorem Od (f:Nat):(∀ x lv,(AV l f x lv).2.ins=x.ins)∧(∀ a x lv,(opsP l f a x lv).2.ins=x.ins)∧∀ x,(unaryP l f x).2.ins=x.ins:=by
 induction f with
 | zero=>exact ⟨fun x lv=>by unfold AV;rfl,fun a x lv=>by unfold opsP;rfl,fun x=>by unfold unaryP;rfl⟩
 | succ f ih =>
  obtain ⟨i1,i2,i3⟩:=ih;refine ⟨fun x lv=>?_,fun a x lv=>?_,fun x=>?_⟩
  ·unfold AV;split
   ·exact i3 _
   ·exact (i2 _ _ _).trans (i1 _ _)
  ·unfold opsP;simp only;split
   ·have h1:=(Df (AV l f { x with k:=x.k+1 } (lv+1)).2 (CG l x lv,0,⟨[]⟩,[a,(AV l f { x with k:=x.k+1 } (lv+1)).1],())).trans (i1 { x with k:=x.k+1 } (lv+1));split
    ·exact h1
    ·exact (i2 _ _ _).trans h1
   ·rfl
  ·unfold unaryP;split
   ·exact (Df _ _).trans ((i3 _).trans (Bg _ _))
   ·split
    ·exact (Bg _ _).trans ((i1 _ _).trans (Bg _ _))
    ·split
     ·exact (Df _ _).trans (BS _).2.2
     ·exact (Df _ _).trans (CA _).2.2
theorem Ui {f:Nat} {x:PS}:(Di l f x).2.ins=x.ins:=by
 have e:=(Od (l:=l) f).1;unfold Di;split
 ·exact (e _ 0).trans ((Bg _ _).trans ((CA _).2.2.trans (Bg _ _)))
 ·split
  ·exact (e _ 0).trans (Bg _ _)
  ·split
   ·exact (BS _).2.2.trans (Bg _ _)
   ·exact Bg _ _
theorem NK (g f:Nat):(∀ x,(BZ l g f x).2.ins=x.ins)∧(∀ x,(blockP l g f x).2.ins=x.ins)∧∀ x of,(listP l g f x of).2.ins=x.ins:=by
 induction f with
 | zero=>exact ⟨fun x=>by unfold BZ;rfl,fun x=>by unfold blockP;rfl,fun x of=>by unfold listP;rfl⟩
 | succ f ih =>
  obtain ⟨i1,i2,i3⟩:=ih;have e:=(Od (l:=l) g).1;refine ⟨fun x=>?_,fun x=>?_,fun x of=>?_⟩
  ·unfold BZ;split
   ·have h0:(Al l { x with pts:=x.pts+1 } [105,102]).ins=x.ins:=Bg (l:=l) { x with pts:=x.pts+1 } _;have h2:=(i2 _).trans ((e _ 0).trans h0);simp only;split
    ·exact (Df _ _).trans ((i2 _).trans ((Bg _ _).trans h2))
    ·exact (Df _ _).trans h2
   ·split
    ·exact (Df _ _).trans ((i2 _).trans ((BS _).2.2.trans (Bg _ _)))
    ·exact (Df _ _).trans ((Bg _ _).trans Ui)
  ·unfold blockP;exact (i3 _ _).trans (Bg _ _)
  ·unfold listP;split
   ·exact (i3 _ _).trans (i1 _)
   ·exact (Df _ _).trans (Bg _ _)
theorem Ps {f:Nat} {x:PS} (h:AP l x [105,110,112,117,116]=true):BR l (f+1) x=BR l f (CQ l x):=by rw [BR,if_pos h]
theorem Qo {f:Nat} {x:PS} (h:AP l x [105,110,112,117,116]=false):BR l f x=x:=by
 cases f with
 | zero=>rfl
 | succ f=>rw [BR,if_neg (by rw [h];decide)]
theorem TI {g f:Nat} {x:PS} {of:List Int} (h:0≤x.k∧x.k < l.length):E3 l g (f+1) x of=E3 l g f (BZ l g g x).2 (of++[(BZ l g g x).1]):=by
 rw [E3,if_pos h]
theorem Wo {g f:Nat} {x:PS} {of:List Int} (h:¬ (0≤x.k∧x.k < l.length)):E3 l g (f+1) x of=Bs x (17,0,⟨[]⟩,of,()):=by
 rw [E3,if_neg h]
end
def Nt (r:Int×PS):Pg×Int:=if r.2.k < 0 then (JR,3) else if r.2.nds.length > 400 then (JR,2) else ((r.2.ins,r.2.nds,r.1,r.2.pts,()),0)
def Cj (s:List UInt8):Pg×Int :=
 if (Cr s).2≠0 then (JR,(Cr s).2)
 else if Ep (Cr s).1 0 0 > 30 then (JR,2)
 else Nt (E3 (Cr s).1 (8 * (Cr s).1.length+8) ((Cr s).1.length+1) (BR (Cr s).1 ((Cr s).1.length+1) ⟨0,[],[],0⟩) [])
theorem Hx (s:List UInt8):∀ (f i:Nat) (out:List Tk),i≤s.length→out.length≤i→(CI s f i out).1.length≤s.length
 | 0,i,out,h1,h2=>by show out.length≤_;omega
 | f+1,i,out,h1,h2=>by
  by_cases hlt:i < s.length
  ·have hs:=OJ s hlt;have hcl:=IF s[i];have he:∀ k,i+1≤BU s k s.length (i+1)∧BU s k s.length (i+1)≤s.length:=fun k=>KU s k s.length (i+1) hlt
   obtain h|h|h|h|h:AU s[i]=0∨AU s[i]=1∨AU s[i]=2∨AU s[i]=3∨AU s[i]=4:=by omega
   ·by_cases hn:Eb s i=0
    ·rw [TN hlt h hn];exact Nat.zero_le _
    ·rw [TM hlt h hn];exact Hx s f _ _ (by omega) (by simp only [List.length_append,List.length_cons,List.length_nil];omega)
   ·have:=he 1;by_cases hn:BU s 1 s.length (i+1) - i > 12
    ·rw [QG hlt h hn];exact Nat.zero_le _
    ·rw [QF hlt h hn];exact Hx s f _ _ (by omega) (by simp only [List.length_append,List.length_cons,List.length_nil];omega)
   ·have:=he 2;by_cases hn:Gl ((s.drop i).take (BU s 2 s.length (i+1) - i)) < 0∨Ld s (BU s 2 s.length (i+1))=1∨Ld s (BU s 2 s.length (i+1))=3
    ·rw [MX hlt h hn];exact Nat.zero_le _
    ·rw [MW hlt h hn];exact Hx s f _ _ (by omega) (by simp only [List.length_append,List.length_cons,List.length_nil];omega)
   ·rw [TL hlt h];exact Nat.zero_le _
   ·rw [TK hlt h];exact Hx s f _ _ (by omega) (by omega)
  ·rw [QH hlt];show out.length≤_;omega
theorem K4 (s:List UInt8):(Cr s).1.length≤1500:=by
 unfold Cr;split
 ·exact Nat.zero_le _
 ·have:=Hx s (s.length+1) 0 [] (Nat.zero_le _) (Nat.zero_le _);omega
abbrev EY:=Int×Int×Int×Unit
def N3:Nd:=(0,0,⟨[]⟩,[],())
def Ax (ns:List Nd) (k:Int):Nd:=ns.getD k.toNat N3
def DQ (k:Int):Int:=if 1≤k∧k≤10 then 1 else if 11≤k∧k≤16 then 2 else if k=17 then 3 else 0
def Fh (k:Int) (many:Nat):List Int :=
 if 3≤k∧k≤9 then [1,1]
 else if k=10∨k=11∨k=14 then [1]
 else if k=12 then (if many=3 then [1,3,3] else [1,3])
 else if k=13 then [3]
 else if k=17 then List.replicate many 2 else []
abbrev Wk:=Int×Int×Bool
def BV (rec:Int→Wk→Wk) (ns:List Nd) (k:Int):List Int→List Int→Wk→Wk×Bool
 | o::os,c::cs,w =>
   if w.2.2 then (w,false)
   else if o < 0∨k≤o∨DQ (Ax ns o).1≠c then ((w.1,w.2.1,true),true)
   else BV rec ns k os cs (rec o w)
 | _,_,w=>(w,false)
def DY (ns:List Nd):Nat→Int→Wk→Wk
 | 0,_,w=>(w.1,w.2.1,true)
 | f+1,k,w =>
   if DQ (Ax ns k).1=0∨(Fh (Ax ns k).1 (Ax ns k).2.2.2.1.length).length≠(Ax ns k).2.2.2.1.length∨((Ax ns k).1=12∧(Ax ns k).2.1≠w.2.1) then (w.1,w.2.1,true)
   else
    let r:=BV (DY ns f) ns k (Ax ns k).2.2.2.1 (Fh (Ax ns k).1 (Ax ns k).2.2.2.1.length) (w.1,if (Ax ns k).1=12 then w.2.1+1 else w.2.1,w.2.2)
    if r.2 then r.1 else (r.1.1+1,r.1.2.1,r.1.2.2 || r.1.1 != k)
def CH (p:Pg):Bool :=
 let n:=p.2.1.length
 if n=0∨n > 400∨p.2.2.1≠(n:Int) - 1 then false
 else if (Ax p.2.1 ((n:Int) - 1)).1≠17 then false
 else if p.1.any (fun i=>decide (i.2.1 < 1∨i.2.1 > 4)) then false
 else
  let w:=DY p.2.1 (n+1) ((n:Int) - 1) (0,0,false)
  !w.2.2 && decide (w.1=(n:Int)) && decide (w.2.1=p.2.2.2.1)
def GX (p:Pg) (s:By):Bool:=p.1.any fun i=>decide (i.1=s)
def Fv (s:By):List Nd→Int→Int
 | [],_=>-1
 | x::r,i=>if x.1=11∧x.2.2.1=s then i else Fv s r (i+1)
def Cl (p:Pg) (s:By):Int:=Fv s p.2.1 0
def Kx:List Ip→List Ip→Bool
 | _,[]=>false
 | pre,i::r=>pre.any (fun j=>decide (j.1=i.1)) || Kx (pre++[i]) r
def eF (xs:List Ip):Bool:=Kx [] xs
def IP (p:Pg):List Nd→Int→Bool
 | [],_=>true
 | x::r,i =>
   let inn:=GX p x.2.2.1
   if x.1=11∧inn then false
   else if x.1=2∧inn=false∧(Cl p x.2.2.1 < 0∨Cl p x.2.2.1 > i) then false
   else IP p r (i+1)
def Fd (p:Pg):Bool:=!eF p.1 && IP p p.2.1 0
def Ey (p:Pg):Nat→Int→Int
 | 0,_=>0
 | f+1,k =>
   let x:=Ax p.2.1 k
   if x.1≥6 then 2 else if x.1≠2 then 1 else if GX p x.2.2.1 then 1
   else Ey p f ((Ax p.2.1 (Cl p x.2.2.1)).2.2.2.1.getD 0 0)
def BB (x:Nd) (i:Nat):Int:=x.2.2.2.1.getD i 0
def Ct (p:Pg) (f:Nat) (x:Nd):Bool :=
 let t:=fun i=>Ey p f (BB x i)
 if 3≤x.1∧x.1≤6 then decide (t 0=1∧t 1=1)
 else if x.1=7 then decide (t 0=t 1)
 else if x.1=8∨x.1=9 then decide (t 0=2∧t 1=2)
 else if x.1=10∨x.1=12 then decide (t 0=2)
 else if x.1=11 then decide (t 0=Ey p f (BB (Ax p.2.1 (Cl p x.2.2.1)) 0))
 else if x.1=14 then decide (t 0=1)
 else true
def Gt (p:Pg):Bool :=
 p.2.1.all (fun x=>!(decide (x.1=1∧¬ (0≤x.2.1∧x.2.1≤65535)) || decide (x.1=13∧¬ (1≤x.2.1∧x.2.1≤8)) || decide (x.1=15∧¬ (1≤x.2.1∧x.2.1≤255)))) &&
 p.1.all (fun x=>!(decide (x.2.1=1∧¬ (0≤x.2.2.1∧x.2.2.1≤7)) || decide (x.2.1=2∧(¬ (0≤x.2.2.1∧x.2.2.1≤3)∨¬ (1≤x.2.2.2.1∧x.2.2.2.1≤17))) || decide (x.2.1=4∧¬ (1≤x.2.2.2.1∧x.2.2.2.1≤1024))))
def DR (a b:Int):Int:=if a+b > 3001 then 3001 else a+b
def J0 (body:Int):Nat→Int→Int
 | 0,n=>n
 | f+1,n=>if n < 3001 then J0 body f (DR n body) else n
def CZ (rec:Int→Int):List Int→Int→Int
 | [],n=>n
 | o::os,n=>CZ rec os (DR n (rec o))
def BA (ns:List Nd):Nat→Int→Int
 | 0,_=>0
 | f+1,k =>
   let x:=Ax ns k
   if x.1=17 then CZ (BA ns f) x.2.2.2.1 0
   else if x.1=12 then
    let side:=BA ns f (BB x 1)
    let side:=if x.2.2.2.1.length=3 then (let s:=DR side 1;let o:=BA ns f (BB x 2);if o > s then o else s) else side
    DR (DR (BA ns f (BB x 0)) 1) side
   else if x.1=13 then J0 (DR (BA ns f (BB x 0)) 1) x.2.1.toNat 2
   else CZ (BA ns f) x.2.2.2.1 1
def FV (p:Pg):List Int:=p.1.map fun i=>if i.2.1=1∨i.2.1=3 then 2 else i.2.2.2.1
def G7:List Int→Int→Bool
 | [],_=>true
 | s::r,n=>if n * s > 1024 then false else G7 r (n * s)
def BH (p:Pg):Int :=
 let f:=p.2.1.length+1
 if CH p=false then 1
 else if Fd p=false then 4
 else if p.2.1.all (Ct p f)=false then 5
 else if Gt p=false∨p.1.length > 6∨p.2.2.2.1 > 8∨DR (BA p.2.1 f p.2.2.1) 1 > 3000 then 2
 else if G7 (FV p) 1=false then 2
 else 0
def Fg (s:By):List By→Int→Int
 | [],_=>-1
 | x::r,i=>if x=s then i else Fg s r (i+1)
def Gq (out:List By) (s:By):List By:=if Fg s out 0 < 0 then out++[s] else out
def DM (p:Pg):List By:=(p.2.1.filter fun x=>decide (x.1=11)).foldl (fun o x=>Gq o x.2.2.1) (p.1.foldl (fun o i=>Gq o i.1) [])
def DP (p:Pg) (k:Nat):Int:=((DM p).length:Int)+(((p.2.1.take k).filter fun x=>decide (x.1=13)).length:Int)
def i1 (op a b:Int):List EY:=[(op,a,b,())]
def Ck (rec:Int→Int→List EY):List Int→Int→List EY→List EY
 | [],_,out=>out
 | o::os,pos,out=>Ck rec os pos (out++rec o (pos+out.length))
def JA:List Int:=[0,0,0,4,5,6,7,8,9,10,11]
def AQ (p:Pg):Nat→Int→Int→List EY
 | 0,_,_=>[]
 | f+1,k,pos =>
   let n:=Ax p.2.1 k
   if n.1=1 then i1 1 n.2.1 0
   else if n.1=2 then i1 2 (Fg n.2.2.1 (DM p) 0) 0
   else if n.1=12 then
    let c:=AQ p f (BB n 0) pos
    let a:=AQ p f (BB n 1) (pos+c.length+1)
    let e:=pos+c.length+1+a.length
    if n.2.2.2.1.length=2 then c++i1 12 e n.2.1++a
    else
     let b:=AQ p f (BB n 2) (e+1)
     c++i1 12 (e+1) n.2.1++a++i1 13 (e+1+b.length) 0++b
   else if n.1=13 then
    let b:=AQ p f (BB n 0) (pos+2)
    i1 1 n.2.1 0++i1 3 (DP p k.toNat) 0++b++i1 17 (DP p k.toNat) (pos+2)
   else if n.1=15 then i1 15 n.2.1 0
   else if n.1=16 then i1 16 0 0
   else
    let out:=Ck (AQ p f) n.2.2.2.1 pos []
    if n.1=11 then out++i1 3 (Fg n.2.2.1 (DM p) 0) 0
    else if n.1=14 then out++i1 14 0 0
    else if n.1=17 then out
    else out++i1 (JA.getD n.1.toNat 0) 0 0
def F7 (p:Pg):(List EY×Int×Int)×Int :=
 let e:=BH p
 if e≠0 then (([],0,0),e)
 else ((AQ p (p.2.1.length+1) p.2.2.1 0++i1 16 0 0,DP p p.2.1.length,p.2.2.2.1),0)
def Ci:Pg:=([(⟨[115]⟩,1,0,0,())],[(2,0,⟨[115]⟩,[],()),(1,1,⟨[]⟩,[],()),(7,0,⟨[]⟩,[0,1],()),(2,0,⟨[115]⟩,[],()),(1,0,⟨[]⟩,[],()),(7,0,⟨[]⟩,[3,4],()),(15,3,⟨[]⟩,[],()),(17,0,⟨[]⟩,[6],()),(12,1,⟨[]⟩,[5,7],()),(17,0,⟨[]⟩,[8],()),(12,0,⟨[]⟩,[2,9],()),(17,0,⟨[]⟩,[10],())],11,2,())
set_option maxRecDepth 100000 in
theorem Sa:BH Ci=0:=by decide
set_option maxRecDepth 100000 in
theorem NN:F7 Ci=(([(2,0,0,()),(1,1,0,()),(8,0,0,()),(12,9,0,()),(2,0,0,()),(1,0,0,()),(8,0,0,()),(12,9,1,()),(15,3,0,()),(16,0,0,())],1,2),0):=by decide
theorem IG {S M} (w:World) (hst:St S M w) (c:UInt8) :
  Ad Tryz.prog 95 [.int .u8 (c.toNat:Int)] w fun v w'=>v=.int .i64 (AU c)∧St S M w':=by
 unfold Ad;have hc:=c.toNat_lt;obtain ⟨R,hR⟩:∃ R,AU c=R:=⟨_,rfl⟩
 have HR:=Lib.hid hR;rw [hR];clear hR;generalize hn:c.toNat=n at *;have HN:=Lib.hid hn;clear hn;go_enter Tryz.func95,Tryz.ntmps95;repeat' (first|go_skip|apply sG ()|(with_reducible refine Sl.k_guard ?_;refine Sl.guard_cases rfl ?_ ?_<;>intro hg<;>first|exact gX|(simp only [hg,Bool.not_true,Bool.not_false])<;>(try replace hg:=gN hg)<;>(try refine nX ?_))|(apply gK ();go_step)|fail)
 all_goals
  go_ret;refine ⟨_,rfl,?_,hst⟩;have h:=HR.out;unfold AU at h;rw [HN.out] at h;rw [← h];(try simp only [beq_iff_eq,beq_eq_false_iff_ne,ne_eq] at *)
  first
   | (rw [if_pos (by omega)];rfl)
   | (rw [if_neg (by omega),if_pos (by omega)];rfl)
   | (rw [if_neg (by omega),if_neg (by omega),if_pos (by omega)];rfl)
   | (rw [if_neg (by omega),if_neg (by omega),if_neg (by omega),if_pos (by omega)];rfl)
   | (rw [if_neg (by omega),if_neg (by omega),if_neg (by omega),if_neg (by omega)];rfl)
theorem UV (b:List UInt8) {i:Nat} (h:i < b.length):Ke (b.take (i+1))=10 * Ke (b.take i)+((b[i]).toNat:Int) - 48:=by
 rw [List.take_succ_eq_append_getElem h,Ke,List.foldl_append];rfl
theorem jd {i:Nat} (h:i≤5):10 ^ i≤100000:=Nat.le_trans (Nat.pow_le_pow_right (by omega) h) (by decide)
theorem Mo {S M} (w:World) (hst:St S M w) (b:List UInt8) (h0:0 < b.length) (hB:b.length≤1048576) :
  Ad Tryz.prog 97 [.string ⟨b.toArray⟩] w fun v w'=>v=.int .i64 (Gl b)∧St S M w':=by
 unfold Ad;by_cases hbad:b.length > 5∨(b.getD 0 0=48∧b.length > 1)
 ·have HR:Hid (Gl b = -1):=Lib.hid (if_pos hbad);have hq:b.getD 0 0=b[0]:=by rw [List.getD_eq_getElem?_getD,List.getElem?_eq_getElem h0];rfl
  obtain ⟨z,hz⟩:∃ z,(((b[0]).toNat:Int) == 48)=z:=⟨_,rfl⟩
  have hz2:b.length > 5∨(z=true∧b.length > 1):=by
   rcases hbad with h|⟨h1,h2⟩
   ·exact .inl h
   ·refine .inr ⟨?_,h2⟩;rw [← hz,← hq,h1];rfl
  clear hbad hq;by_cases h5:b.length > 5
  ·go_enter Tryz.func97,Tryz.ntmps97;repeat' (first|go_skip|(with_reducible refine Sl.k_guard ?_;(refine Sl.guard_cases rfl ?_ ?_<;>intro hg<;>first|exact gX|(simp only [hg,Bool.not_true,Bool.not_false]))<;>(try replace hg:=gN hg)<;>(try refine nX ?_))|(apply gK ();go_step)|(with_reducible refine kC ?_;refine Ag hst (by exact AS Ab Aa) ?_<;>(try refine nX ?_))|fail)
   go_ret;exact ⟨_,rfl,by rw [HR.out];rfl,hst⟩
  ·obtain ⟨rfl,h1⟩:=hz2.resolve_left h5;go_enter Tryz.func97,Tryz.ntmps97;repeat' (first|apply sG ()|(with_reducible refine Sl.k_guard ?_;refine Sl.guard_cases rfl ?_ ?_<;>intro hg<;>first|exact gX|(simp only [hg,Bool.not_true,Bool.not_false])<;>(try replace hg:=gN hg)<;>(try refine nX ?_))|(with_reducible refine kX ?_;refine Ag hst (by exact BY Ab Ab StrT.u Af Af) ?_<;>(try refine nX ?_))|apply sK ()|(apply gK ();go_step)|(with_reducible refine kC ?_;refine Ag hst (by exact AS Ab Aa) ?_<;>(try refine nX ?_))|fail)
   go_ret;exact ⟨_,rfl,by rw [HR.out];rfl,hst⟩
 ·have HR0:Gl b=if Ke b > 65535 then -1 else Ke b:=if_neg hbad;have h5:b.length≤5:=by omega
  have hq:b.getD 0 0=b[0]:=by rw [List.getD_eq_getElem?_getD,List.getElem?_eq_getElem h0];rfl
  obtain ⟨z,hz⟩:∃ z,(((b[0]).toNat:Int) == 48)=z:=⟨_,rfl⟩
  have hz2:z=false∨¬ b.length > 1:=by
   cases z with
   | false=>exact .inl rfl
   | true =>
    refine .inr fun h=>hbad (.inr ⟨?_,h⟩)
    rw [hq];have:(b[0]).toNat=48:=by have:=of_decide_eq_true (p:=((b[0]).toNat:Int)=48) (by simpa using hz);omega
    exact UInt8.toNat_inj.1 this
  obtain ⟨R,hR⟩:∃ R,Gl b=R:=⟨_,rfl⟩
  rw [hR];have HR:=Lib.hid (hR.symm.trans HR0);clear hR HR0 hbad hq;have hz3:(z=false)∨(z=true∧¬ b.length > 1):=by cases z<;>simp_all
  clear hz2;rcases hz3 with rfl|⟨rfl,h1⟩
  all_goals
   go_enter Tryz.func97,Tryz.ntmps97;repeat' (first|go_skip|apply sG ()|(with_reducible refine Sl.k_guard ?_;refine Sl.guard_cases rfl ?_ ?_<;>intro hg<;>first|exact gX|(simp only [hg,Bool.not_true,Bool.not_false])<;>(try replace hg:=gN hg)<;>(try refine nX ?_))|(with_reducible refine kX ?_;refine Ag hst (by exact BY Ab Ab StrT.u Af Af) ?_<;>(try refine nX ?_))|apply sK ()|(apply gK ();go_step)|(with_reducible refine kC ?_;refine Ag hst (by exact AS Ab Aa) ?_<;>(try refine nX ?_))|fail)
   go_loopw [3,4] (fun u v wr=>∃ (i:Nat) (n:Int) (P:Nat),i≤b.length∧v=.int .i64 i∧u=.int .i64 n∧Hid (n=Ke (b.take i))∧Hid (P=10 ^ i)∧P≤100000∧-(30 * (P:Int))+30≤n∧n≤30 * (P:Int) - 30∧St S M wr) (fun _ v _=>b.length - (intOf v).toNat)
   case atStart=>exact ⟨0,0,1,Nat.zero_le _,rfl,rfl,Lib.hid rfl,Lib.hid rfl,by omega,by omega,by omega,hst⟩
   case round =>
    clear hst;obtain ⟨i,n,P,hi,rfl,rfl,hn,hP,hP5,hl1,hl2,hst⟩:=hrel;by_cases hlt:i < b.length
    ·have hby:=(b[i]).toNat_lt;have hnx:=Lib.hid ((UV b hlt).trans (by rw [← hn.out]));have hPn:Hid (10 * P=10 ^ (i+1)):=Lib.hid (by rw [hP.out,Nat.pow_succ];omega);have hP6:10 * P≤100000:=by rw [hPn.out];exact jd (by omega)
     repeat' (first|(with_reducible refine kX ?_;refine Ag hst (by exact BY Ab Ab StrT.u Af Af) ?_<;>(try refine nX ?_))|(apply gK ();go_step)|(with_reducible refine kC ?_;refine Ag hst (by exact AS Ab Aa) ?_<;>(try refine nX ?_))|fail)
     go_roundw
     case rel=>exact ⟨i+1,10 * n+((b[i]).toNat:Int) - 48,10 * P,by omega,by go_num,by go_num,Lib.hid hnx.out.symm,hPn,hP6,by omega,by omega,hst⟩
     case measure=>simp [intOf];omega
    ·have he:=hn.out;rw [List.take_of_length_le (by omega)] at he;have hr:=HR.out;rw [← he] at hr;have Hr:=Lib.hid hr;clear he hr hn HR hP;by_cases hbig:n > 65535
     ·repeat' (first|(apply gK ();go_step)|(with_reducible refine kC ?_;refine Ag hst (by exact AS Ab Aa) ?_<;>(try refine nX ?_))|fail)
      go_ret;exact ⟨_,rfl,by rw [Hr.out,if_pos hbig];rfl,hst⟩
     ·repeat' (first|(apply gK ();go_step)|(with_reducible refine kC ?_;refine Ag hst (by exact AS Ab Aa) ?_<;>(try refine nX ?_))|fail)
      go_ret;exact ⟨_,rfl,by rw [Hr.out,if_neg hbig];rfl,hst⟩
theorem WH {S M} (w:World) (hst:St S M w) (b:List UInt8) (i:Nat) (hi:i < b.length) (hB:b.length≤1048576) :
  Ad Tryz.prog 96 [.string ⟨b.toArray⟩,.int .i64 (i:Int)] w fun v w'=>v=.int .i64 (Eb b i:Int)∧St S M w':=by
 unfold Ad;obtain ⟨T,hT⟩:∃ T,(if i+2≤b.length then (b.drop i).take 2 else [])=T:=⟨_,rfl⟩
 have hq:b.getD i 0=b[i]:=by rw [List.getD_eq_getElem?_getD,List.getElem?_eq_getElem hi];rfl
 obtain ⟨R,hR⟩:∃ R,Eb b i=R:=⟨_,rfl⟩
 have HR:=hR;unfold Eb at HR;simp only [hT,hq] at HR;rw [hR];clear hR hq;obtain ⟨z1,hz1⟩:∃ z,decide (T=[61,61])=z:=⟨_,rfl⟩
 obtain ⟨z2,hz2⟩:∃ z,decide (T=[38,38])=z:=⟨_,rfl⟩
 obtain ⟨z3,hz3⟩:∃ z,decide (T=[124,124])=z:=⟨_,rfl⟩
 obtain ⟨z4,hz4⟩:∃ z,decide (T=[62,61])=z:=⟨_,rfl⟩
 have hby:=(b[i]).toNat_lt
 have kz:z1=true∨(z1=false∧z2=true)∨(z1=false∧z2=false∧z3=true)∨(z1=false∧z2=false∧z3=false∧z4=true)∨(z1=false∧z2=false∧z3=false∧z4=false):=by
  cases z1<;>cases z2<;>cases z3<;>cases z4<;>simp
 have hyes:(z1=true∨z2=true∨z3=true∨z4=true)→Hid (R=2):=fun h=>Lib.hid (by
  rw [← HR];refine if_pos ?_;rcases h with rfl|rfl|rfl|rfl
  ·exact .inl (of_decide_eq_true hz1)
  ·exact .inr (.inl (of_decide_eq_true hz2))
  ·exact .inr (.inr (.inl (of_decide_eq_true hz3)))
  ·exact .inr (.inr (.inr (of_decide_eq_true hz4))))
 have hno:z1=false→z2=false→z3=false→z4=false→Hid (R=if (b[i]).toNat=123∨(b[i]).toNat=125∨(b[i]).toNat=40∨(b[i]).toNat=41∨(b[i]).toNat=59∨(b[i]).toNat=61∨(b[i]).toNat=43∨(b[i]).toNat=45∨(b[i]).toNat=42∨(b[i]).toNat=60∨(b[i]).toNat=33 then 1 else 0):=fun h1 h2 h3 h4=>Lib.hid (by
  rw [← HR];refine if_neg ?_;rintro (h|h|h|h)
  ·rw [decide_eq_true h] at hz1;cases hz1.trans h1
  ·rw [decide_eq_true h] at hz2;cases hz2.trans h2
  ·rw [decide_eq_true h] at hz3;cases hz3.trans h3
  ·rw [decide_eq_true h] at hz4;cases hz4.trans h4)
 clear HR;by_cases h2:i+2≤b.length
 ·rw [if_pos h2] at hT;have e2:(b.drop i).take (i+2 - i)=T:=by rw [Nat.add_sub_cancel_left,hT]
  clear hT
  have cT:∀ {P:Program} {l:List Value} {ty:TypeId} {x y z:Operand},Ai l x=.string ⟨b.toArray⟩→Ai l y=.int .i64 (i:Int)→Ai l z=.int .i64 ((i:Int)+2)→StrT P ty→Qt P l (.slice ty x (some y) (some z) none) S M (.string ⟨T.toArray⟩):=fun hx hy hz hT=>by
   have:=Gj (S:=S) (M:=M) (i:=i) (m:=i+2) hx hy hz rfl (by omega) hT (by omega) h2;rwa [e2] at this
  clear e2;rcases kz with rfl|⟨rfl,rfl⟩|⟨rfl,rfl,rfl⟩|⟨rfl,rfl,rfl,rfl⟩|⟨rfl,rfl,rfl,rfl⟩
  rotate_right
  ·have hE:=hno rfl rfl rfl rfl;clear hyes hno;go_enter Tryz.func96,Tryz.ntmps96;repeat' (first|(with_reducible (refine Ag hst (cT rfl rfl rfl Aa) ?_)<;>(try refine nX ?_))|(with_reducible refine kB ?_;refine Ag hst (Aw rfl rfl Aa hz1) ?_<;>(try refine nX ?_))|(with_reducible refine kB ?_;refine Ag hst (Aw rfl rfl Aa hz2) ?_<;>(try refine nX ?_))|(with_reducible refine kB ?_;refine Ag hst (Aw rfl rfl Aa hz3) ?_<;>(try refine nX ?_))|(with_reducible refine kB ?_;refine Ag hst (Aw rfl rfl Aa hz4) ?_<;>(try refine nX ?_))|(with_reducible refine kX ?_;refine Ag hst (by exact BY Ab Ab StrT.u Af Af) ?_<;>(try refine nX ?_))|(apply gK ();go_step)|(with_reducible refine kC ?_;refine Ag hst (by exact AS Ab Aa) ?_<;>(try refine nX ?_))|fail)
   all_goals
    apply gR ()
  all_goals
   have hE:=hyes (by simp);clear hyes hno;go_enter Tryz.func96,Tryz.ntmps96;repeat' (first|(with_reducible (refine Ag hst (cT rfl rfl rfl Aa) ?_)<;>(try refine nX ?_))|(with_reducible refine kB ?_;refine Ag hst (Aw rfl rfl Aa hz1) ?_<;>(try refine nX ?_))|(with_reducible refine kB ?_;refine Ag hst (Aw rfl rfl Aa hz2) ?_<;>(try refine nX ?_))|(with_reducible refine kB ?_;refine Ag hst (Aw rfl rfl Aa hz3) ?_<;>(try refine nX ?_))|(with_reducible refine kB ?_;refine Ag hst (Aw rfl rfl Aa hz4) ?_<;>(try refine nX ?_))|(apply gK ();go_step)|(with_reducible refine kC ?_;refine Ag hst (by exact AS Ab Aa) ?_<;>(try refine nX ?_))|fail)
   go_ret;exact ⟨_,rfl,by rw [hE.out];rfl,hst⟩
 ·rw [if_neg h2] at hT;subst hT;have hE:=hno (by rw [← hz1];rfl) (by rw [← hz2];rfl) (by rw [← hz3];rfl) (by rw [← hz4];rfl);clear hyes hno kz hz1 hz2 hz3 hz4;have hz1:decide (([]:List UInt8)=[61,61])=false:=rfl;have hz2:decide (([]:List UInt8)=[38,38])=false:=rfl;have hz3:decide (([]:List UInt8)=[124,124])=false:=rfl;have hz4:decide (([]:List UInt8)=[62,61])=false:=rfl;go_enter Tryz.func96,Tryz.ntmps96;repeat' (first|(with_reducible refine kB ?_;refine Ag hst (Aw rfl rfl Aa hz1) ?_<;>(try refine nX ?_))|(with_reducible refine kB ?_;refine Ag hst (Aw rfl rfl Aa hz2) ?_<;>(try refine nX ?_))|(with_reducible refine kB ?_;refine Ag hst (Aw rfl rfl Aa hz3) ?_<;>(try refine nX ?_))|(with_reducible refine kB ?_;refine Ag hst (Aw rfl rfl Aa hz4) ?_<;>(try refine nX ?_))|(with_reducible refine kX ?_;refine Ag hst (by exact BY Ab Ab StrT.u Af Af) ?_<;>(try refine nX ?_))|(apply gK ();go_step)|(with_reducible refine kC ?_;refine Ag hst (by exact AS Ab Aa) ?_<;>(try refine nX ?_))|fail)
  all_goals
   apply gR ()
end Go.Proofs.YtmmbidoldegemaaGreatDoor
