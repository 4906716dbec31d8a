/- Part 5 of the proof that the law of the last part holds; no conditions. -/
import Derived.Test.YtmmbidoldegemaaGreatDoorZ03
set_option linter.unusedSimpArgs false
set_option linter.unusedVariables false
set_option maxRecDepth 8000
set_option maxHeartbeats 8000000
namespace Go.Proofs.YtmmbidoldegemaaGreatDoor
open Go.RowKit Go.Sl
abbrev Tk:=Int×By×Int×Int×Unit
def AU (c:UInt8):Int :=
 if (97≤c.toNat∧c.toNat≤122)∨(65≤c.toNat∧c.toNat≤90) then 1
 else if 48≤c.toNat∧c.toNat≤57 then 2
 else if c.toNat=95 then 3
 else if c.toNat=9∨c.toNat=10∨c.toNat=32 then 4
 else 0
def Eb (s:List UInt8) (i:Nat):Nat :=
 let two:=if i+2≤s.length then (s.drop i).take 2 else []
 if two=[61,61]∨two=[38,38]∨two=[124,124]∨two=[62,61] then 2
 else
  let c:=(s.getD i 0).toNat
  if c=123∨c=125∨c=40∨c=41∨c=59∨c=61∨c=43∨c=45∨c=42∨c=60∨c=33 then 1 else 0
def Ke (w:List UInt8):Int:=w.foldl (fun n c=>10 * n+(c.toNat:Int) - 48) 0
def Gl (w:List UInt8):Int:=if w.length > 5∨(w.getD 0 0=48∧w.length > 1) then -1 else if Ke w > 65535 then -1 else Ke w
def BU (s:List UInt8) (k:Int):Nat→Nat→Nat
 | 0,n=>n
 | f+1,n=>if n < s.length then
   let c:=AU (s.getD n 0)
   if c≠2∧(k≠1∨(c≠1∧c≠3)) then n else BU s k f (n+1)
  else n
def CI (s:List UInt8):Nat→Nat→List Tk→List Tk×Int
 | 0,_,out=>(out,0)
 | f+1,i,out=>if i < s.length then
   let k:=AU (s.getD i 0)
   if k=4 then CI s f (i+1) out
   else if k=3 then ([],3)
   else if k=0 then
    let n:=Eb s i
    if n=0 then ([],3) else CI s f (i+n) (out++[((3,⟨(s.drop i).take n⟩,0,(i:Int),()):Tk)])
   else
    let n:=BU s k s.length (i+1)
    let w:=(s.drop i).take (n - i)
    if k=1∧n - i > 12 then ([],3)
    else if k=2 then
     let v:=Gl w
     let nx:=if n < s.length then AU (s.getD n 0) else 0
     if v < 0∨nx=1∨nx=3 then ([],3) else CI s f n (out++[((k,⟨w⟩,v,(i:Int),()):Tk)])
    else CI s f n (out++[((k,⟨w⟩,0,(i:Int),()):Tk)])
  else (out,0)
def Cr (s:List UInt8):List Tk×Int:=if s.length > 1500 then ([],2) else CI s (s.length+1) 0 []
abbrev Ip:=By×Int×Int×Int×Unit
abbrev Nd:=Int×Int×By×List Int×Unit
abbrev Pg:=List Ip×List Nd×Int×Int×Unit
structure PS where
 k:Int
 ins:List Ip
 nds:List Nd
 pts:Int
 deriving DecidableEq
variable (l:List Tk)
def JZ (x:PS):Option Tk:=if x.k < 0 then none else l[x.k.toNat]?
def AP (x:PS) (s:List UInt8):Bool:=match JZ l x with|some t=>t.1 != 2 && decide (t.2.1.b=s)|none=>false
def B6 (x:PS):PS:={ x with k:=-1 }
def Al (x:PS) (s:List UInt8):PS:=if AP l x s then { x with k:=x.k+1 } else B6 x
def Ft:List (List UInt8):=[[105,110,112,117,116],[115,116,114,97,112],[102,117,115,101],[115,108,111,116],[109,97,105,108],[108,101,116],[105,102],[101,108,115,101],[114,101,112,101,97,116],[110,111,116,101],[104,97,108,116],[97,99,99,101,112,116]]
def AI (x:PS):By×PS:=match JZ l x with
 | some t=>if t.1≠1∨t.2.1.b∈Ft then (⟨[]⟩,B6 x) else (t.2.1,{ x with k:=x.k+1 })
 | none=>(⟨[]⟩,B6 x)
def EC (x:PS):Bool:=match JZ l x with|some t=>t.1 == 2|none=>false
def AJ (x:PS):Int×PS:=match JZ l x with
 | some t=>if t.1=2 then (t.2.2.1,{ x with k:=x.k+1 }) else (0,B6 x)
 | none=>(0,B6 x)
def Bs (x:PS) (n:Nd):Int×PS:=if x.k < 0 then (0,x) else ((x.nds.length:Int),{ x with nds:=x.nds++[n] })
def CT (x:PS):Ip×PS :=
 let s:=(AI l (Al l x [105,110,112,117,116])).1
 let y:=(AI l (Al l x [105,110,112,117,116])).2
 if AP l y [115,116,114,97,112] then ((s,1,(AJ l (Al l y [115,116,114,97,112])).1,0,()),(AJ l (Al l y [115,116,114,97,112])).2)
 else if AP l y [102,117,115,101] then
  let a:=AJ l (Al l y [102,117,115,101])
  ((s,2,a.1,(AJ l a.2).1,()),(AJ l a.2).2)
 else if AP l y [115,108,111,116] then ((s,3,0,0,()),Al l y [115,108,111,116])
 else ((s,4,0,(AJ l (Al l y [109,97,105,108])).1,()),(AJ l (Al l y [109,97,105,108])).2)
def CQ (x:PS):PS:=Al l { (CT l x).2 with ins:=(CT l x).2.ins++[(CT l x).1] } [59]
def CG (x:PS) (level:Nat):Int :=
 if level=0∧AP l x [124,124] then 9 else if level=1∧AP l x [38,38] then 8
 else if level=2∧AP l x [60] then 6 else if level=2∧AP l x [61,61] then 7
 else if level=3∧AP l x [43] then 3 else if level=3∧AP l x [45] then 4
 else if level=4∧AP l x [42] then 5 else 0
mutual
def AV:Nat→PS→Nat→Int×PS
 | 0,x,_=>(0,B6 x)
 | f+1,x,level=>if level=5 then unaryP f x else
   let (a,y):=AV f x (level+1)
   opsP f a y level
def opsP:Nat→Int→PS→Nat→Int×PS
 | 0,_,y,_=>(0,B6 y)
 | f+1,a,y,level =>
   let kind:=CG l y level
   if kind > 0 then
    let (b,z):=AV f { y with k:=y.k+1 } (level+1)
    let (a,y):=Bs z (kind,0,⟨[]⟩,[a,b],())
    if level=2 then (a,y) else opsP f a y level
   else (a,y)
def unaryP:Nat→PS→Int×PS
 | 0,x=>(0,B6 x)
 | f+1,x =>
   if AP l x [33] then let (a,y):=unaryP f (Al l x [33]);Bs y (10,0,⟨[]⟩,[a],())
   else if AP l x [40] then let (a,y):=AV f (Al l x [40]) 0;(a,Al l y [41])
   else if EC l x then let (n,y):=AJ l x;Bs y (1,n,⟨[]⟩,[],())
   else let (s,y):=AI l x;Bs y (2,0,s,[],())
end
def Di (f:Nat) (x:PS):Nd×PS :=
 if AP l x [108,101,116] then
  let (s,y):=AI l (Al l x [108,101,116])
  let (a,z):=AV l f (Al l y [61]) 0
  ((11,0,s,[a],()),z)
 else if AP l x [110,111,116,101] then let (a,y):=AV l f (Al l x [110,111,116,101]) 0;((14,0,⟨[]⟩,[a],()),y)
 else if AP l x [104,97,108,116] then let (m,y):=AJ l (Al l x [104,97,108,116]);((15,m,⟨[]⟩,[],()),y)
 else ((16,0,⟨[]⟩,[],()),Al l x [97,99,99,101,112,116])
def C0 (f:Nat) (x:PS):Int×PS:=Bs (Al l (Di l f x).2 [59]) (Di l f x).1
mutual
def BZ (g:Nat):Nat→PS→Int×PS
 | 0,x=>(0,B6 x)
 | f+1,x =>
   if AP l x [105,102] then
    let pts:=x.pts
    let (a,y):=AV l g (Al l { x with pts:=x.pts+1 } [105,102]) 0
    let (b,z):=blockP g f y
    if AP l z [101,108,115,101] then
     let (c,w):=blockP g f (Al l z [101,108,115,101])
     Bs w (12,pts,⟨[]⟩,[a,b,c],())
    else Bs z (12,pts,⟨[]⟩,[a,b],())
   else if AP l x [114,101,112,101,97,116] then
    let (n,y):=AJ l (Al l x [114,101,112,101,97,116])
    let (b,z):=blockP g f y
    Bs z (13,n,⟨[]⟩,[b],())
   else C0 l g x
def blockP (g:Nat):Nat→PS→Int×PS
 | 0,x=>(0,B6 x)
 | f+1,x=>listP g f (Al l x [123]) []
def listP (g:Nat):Nat→PS→List Int→Int×PS
 | 0,x,_=>(0,B6 x)
 | f+1,y,of=>if y.k≥0∧AP l y [125]=false then let (s,z):=BZ g f y;listP g f z (of++[s]) else Bs (Al l y [125]) (17,0,⟨[]⟩,of,())
end
def BR:Nat→PS→PS
 | 0,x=>x
 | f+1,x=>if AP l x [105,110,112,117,116] then BR f (CQ l x) else x
def E3 (g:Nat):Nat→PS→List Int→Int×PS
 | 0,x,_=>(0,B6 x)
 | f+1,x,of=>if x.k≥0∧x.k < (l.length:Int) then let (s,y):=BZ l g g x;E3 g f y (of++[s]) else Bs x (17,0,⟨[]⟩,of,())
def Ep:List Tk→Int→Int→Int
 | [],_,most=>most
 | t::r,n,most =>
   let n:=if t.1=3∧(t.2.1.b=[40]∨t.2.1.b=[123]) then n+1 else n
   let n:=if t.1=3∧(t.2.1.b=[41]∨t.2.1.b=[125]) then n - 1 else n
   Ep r n (max most n)
def JR:Pg:=([],[],0,0,())
def KG:List UInt8:=[105,110,112,117,116,32,115,32,115,116,114,97,112,32,48,59,32,105,102,32,115,32,61,61,32,49,32,123,32,105,102,32,115,32,61,61,32,48,32,123,32,104,97,108,116,32,51,59,32,125,32,125]
set_option maxRecDepth 100000 in
theorem WK:Cr KG=(([(1,⟨[105,110,112,117,116]⟩,0,0,()),(1,⟨[115]⟩,0,6,()),(1,⟨[115,116,114,97,112]⟩,0,8,()),(2,⟨[48]⟩,0,14,()),(3,⟨[59]⟩,0,15,()),(1,⟨[105,102]⟩,0,17,()),(1,⟨[115]⟩,0,20,()),(3,⟨[61,61]⟩,0,22,()),(2,⟨[49]⟩,1,25,()),(3,⟨[123]⟩,0,27,()),(1,⟨[105,102]⟩,0,29,()),(1,⟨[115]⟩,0,32,()),(3,⟨[61,61]⟩,0,34,()),(2,⟨[48]⟩,0,37,()),(3,⟨[123]⟩,0,39,()),(1,⟨[104,97,108,116]⟩,0,41,()),(2,⟨[51]⟩,3,46,()),(3,⟨[59]⟩,0,47,()),(3,⟨[125]⟩,0,49,()),(3,⟨[125]⟩,0,51,())]:List Tk),(0:Int)):=by decide +kernel
section
variable {l:List Tk}
def AH (l:List Tk) (s:Nat) (x:PS):Prop :=
 ((x.nds.length:Int)+s≤x.k∧x.k≤l.length∧0≤x.pts∧x.pts≤x.k)∨(x.k = -1∧(x.nds.length:Int)≤l.length∧0≤x.pts∧x.pts≤l.length)
def BI (x y:PS):Prop:=y.k = -1∨(0≤x.k∧x.k < y.k)
def DK (x y:PS):Prop:=y.k = -1∨(0≤x.k∧x.k≤y.k)
def BN (l:List Tk) (x:PS):Nat:=if x.k < 0 then 0 else l.length - x.k.toNat
theorem BI.trE {x y z:PS} (h:BI x y) (g:DK y z):BI x z:=by unfold BI DK at *;omega
theorem DK.tr {x y z:PS} (h:DK x y) (g:BI y z):BI x z:=by unfold BI DK at *;omega
theorem BI.tr {x y z:PS} (h:BI x y) (g:BI y z):BI x z:=by unfold BI at *;omega
theorem DK.trE {x y z:PS} (h:DK x y) (g:DK y z):DK x z:=by unfold DK at *;omega
theorem BI.E {x y:PS} (h:BI x y):DK x y:=by unfold BI DK at *;omega
theorem BI.lo {x y:PS} (h:BI x y) : -1≤y.k:=by unfold BI at *;omega
theorem DK.lo {x y:PS} (h:DK x y) : -1≤y.k:=by unfold DK at *;omega
theorem DK.rf {x:PS} (h : -1≤x.k):DK x x:=by unfold DK;omega
theorem BI.of_k {x y z:PS} (h:BI x y) (e:z.k=y.k):BI x z:=by unfold BI at *;omega
theorem AH.le {s s':Nat} {x:PS} (h:AH l s x) (hs:s'≤s):AH l s' x:=by unfold AH at *;omega
theorem AH.lo {s:Nat} {x:PS} (h:AH l s x) : -1≤x.k:=by unfold AH at h;omega
theorem AH.hi {s:Nat} {x:PS} (h:AH l s x):x.k≤l.length:=by unfold AH at h;omega
theorem AH.nds {s:Nat} {x:PS} (h:AH l s x):x.nds.length≤l.length:=by unfold AH at h;omega
theorem AH.pts0 {s:Nat} {x:PS} (h:AH l s x):0≤x.pts:=by unfold AH at h;omega
theorem AH.pts1 {s:Nat} {x:PS} (h:AH l s x):x.pts≤l.length:=by unfold AH at h;omega
theorem AH.fail {s s':Nat} {x:PS} (h:AH l s x):AH l s' (B6 x):=by
 have a:=h.nds;have b:=h.pts0;have c:=h.pts1;exact .inr ⟨rfl,by show (x.nds.length:Int)≤l.length;omega,b,c⟩
theorem Hj {x y:PS} (h:BI x y) (hy:y.k≤l.length):BN l y=0∨BN l y+1≤BN l x:=by
 unfold BI at h;unfold BN;split<;>split<;>omega
theorem LA {x y:PS} (h:DK x y) (hy:y.k≤l.length):BN l y≤BN l x:=by
 unfold DK at h;unfold BN;split<;>split<;>omega
theorem I0 (x:PS):BN l x≤l.length:=by unfold BN;split<;>omega
theorem KN {x:PS} (h0:0≤x.k) (h:x.k < l.length):1≤BN l x:=by unfold BN;rw [if_neg (by omega)];omega
theorem Jj {x:PS} (h:x.k < 0∨(l.length:Int)≤x.k):JZ l x=none:=by
 unfold JZ;split
 ·rfl
 ·exact List.getElem?_eq_none (by omega)
theorem Ji {x:PS} (h0:0≤x.k) (h:x.k < l.length):JZ l x=some (l[x.k.toNat]'(by omega)):=by
 unfold JZ;rw [if_neg (by omega),List.getElem?_eq_getElem (by omega)]
theorem Hh {x:PS} {t:Tk} (h:JZ l x=some t):0≤x.k∧x.k < l.length:=by
 refine Decidable.byContradiction fun n=>?_
 rw [Jj (by omega)] at h;cases h
theorem ES {x:PS} {s:List UInt8} (h:AP l x s=true):0≤x.k∧x.k < l.length:=by
 unfold AP at h;split at h
 ·exact Hh (by assumption)
 ·cases h
theorem O8 {x:PS} (h:EC l x=true):0≤x.k∧x.k < l.length:=by
 unfold EC at h;split at h
 ·exact Hh (by assumption)
 ·cases h
theorem AO {s:Nat} {x:PS} (t:List UInt8) (h:AH l s x):AH l (s+1) (Al l x t):=by
 unfold Al;split
 ·have:=ES (l:=l) (by assumption);unfold AH at *;simp only;omega
 ·exact h.fail
theorem A1 (x:PS) (t:List UInt8):BI x (Al l x t):=by
 unfold Al;split
 ·have:=ES (l:=l) (by assumption);unfold BI;simp only;omega
 ·exact .inl rfl
theorem Is {s:Nat} {x:PS} (h:AH l s x):AH l (s+1) (AI l x).2:=by
 unfold AI;split
 ·split
  ·exact h.fail
  ·have:=Hh (l:=l) (by assumption);unfold AH at *;simp only;omega
 ·exact h.fail
theorem Kg (x:PS):BI x (AI l x).2:=by
 unfold AI;split
 ·split
  ·exact .inl rfl
  ·have:=Hh (l:=l) (by assumption);unfold BI;simp only;omega
 ·exact .inl rfl
theorem CL {s:Nat} {x:PS} (h:AH l s x):AH l (s+1) (AJ l x).2:=by
 unfold AJ;split
 ·split
  ·have:=Hh (l:=l) (by assumption);unfold AH at *;simp only;omega
  ·exact h.fail
 ·exact h.fail
theorem Dz (x:PS):BI x (AJ l x).2:=by
 unfold AJ;split
 ·split
  ·have:=Hh (l:=l) (by assumption);unfold BI;simp only;omega
  ·exact .inl rfl
 ·exact .inl rfl
theorem De {s:Nat} {x:PS} (n:Nd) (h:AH l (s+1) x):AH l s (Bs x n).2:=by
 unfold Bs;split
 ·exact h.le (by omega)
 ·unfold AH at *;simp only [List.length_append,List.length_cons,List.length_nil];omega
theorem Em (x:PS) (n:Nd):(Bs x n).2.k=x.k:=by unfold Bs;split<;>rfl
theorem J3 {x:PS} {lv:Nat} (h:CG l x lv > 0):0≤x.k∧x.k < l.length:=by
 unfold CG at h
 repeat' split at h
 all_goals first
  | omega
  | exact ES (l:=l) (by rename_i g;exact g.2)
theorem OG {s:Nat} {x:PS} (h:AH l s x) (h0:0≤x.k∧x.k < l.length):AH l (s+1) { x with k:=x.k+1 }:=by
 unfold AH at *;simp only;omega
theorem D4 (f:Nat):(∀ s x lv,AH l s x→AH l s (AV l f x lv).2)∧(∀ s a x lv,AH l s x→AH l s (opsP l f a x lv).2)∧∀ s x,AH l s x→AH l s (unaryP l f x).2:=by
 induction f with
 | zero=>exact ⟨fun s x lv h=>by unfold AV;exact h.fail,fun s a x lv h=>by unfold opsP;exact h.fail,fun s x h=>by unfold unaryP;exact h.fail⟩
 | succ f ih =>
  obtain ⟨i1,i2,i3⟩:=ih;refine ⟨fun s x lv h=>?_,fun s a x lv h=>?_,fun s x h=>?_⟩
  ·unfold AV;split
   ·exact i3 _ _ h
   ·exact i2 _ _ _ _ (i1 _ _ _ h)
  ·unfold opsP;simp only;split
   ·have hp:=J3 (l:=l) (by assumption);have h1:=De (CG l x lv,0,⟨[]⟩,[a,(AV l f { x with k:=x.k+1 } (lv+1)).1],()) (i1 _ _ (lv+1) (OG h hp));split
    ·exact h1
    ·exact i2 _ _ _ _ h1
   ·exact h
  ·unfold unaryP;split
   ·exact De _ (i3 _ _ (AO _ h))
   ·split
    ·exact (AO _ (i1 _ _ _ (AO _ h))).le (Nat.le_add_right s 2)
    ·split
     ·exact De _ (CL h)
     ·exact De _ (Is h)
theorem GS (f:Nat):(∀ x lv,-1≤x.k→BI x (AV l f x lv).2)∧(∀ a x lv,-1≤x.k→DK x (opsP l f a x lv).2)∧∀ x,-1≤x.k→BI x (unaryP l f x).2:=by
 induction f with
 | zero=>exact ⟨fun x lv _=>by unfold AV;exact .inl rfl,fun a x lv _=>by unfold opsP;exact .inl rfl,fun x _=>by unfold unaryP;exact .inl rfl⟩
 | succ f ih =>
  obtain ⟨i1,i2,i3⟩:=ih;refine ⟨fun x lv h=>?_,fun a x lv h=>?_,fun x h=>?_⟩
  ·unfold AV;split
   ·exact i3 _ h
   ·exact (i1 _ _ h).trE (i2 _ _ _ (i1 _ _ h).lo)
  ·unfold opsP;simp only;split
   ·have hp:=J3 (l:=l) (by assumption);have h1:=(i1 { x with k:=x.k+1 } (lv+1) (by simp only;omega)).of_k (Em (AV l f { x with k:=x.k+1 } (lv+1)).2 (CG l x lv,0,⟨[]⟩,[a,(AV l f { x with k:=x.k+1 } (lv+1)).1],()));have h2:DK x { x with k:=x.k+1 }:=.inr (by simp only;omega);split
    ·exact (h2.tr h1).E
    ·exact h2.trE (h1.E.trE (i2 _ _ _ h1.lo))
   ·exact DK.rf h
  ·unfold unaryP;split
   ·exact ((A1 _ _).trE (i3 _ (A1 _ _).lo).E).of_k (Em _ _)
   ·split
    ·exact ((A1 _ _).trE (i1 _ _ (A1 _ _).lo).E).tr (A1 _ _)
    ·split
     ·exact (Dz _).of_k (Em _ _)
     ·exact (Kg _).of_k (Em _ _)
theorem Uh {s:Nat} {f:Nat} {x:PS} (h:AH l s x):AH l s (Di l f x).2:=by
 have e:=(D4 (l:=l) f).1;unfold Di;split
 ·exact (e _ _ 0 (AO _ (Is (AO _ h)))).le (Nat.le_add_right s 3)
 ·split
  ·exact (e _ _ 0 (AO _ h)).le (Nat.le_add_right s 1)
  ·split
   ·exact (CL (AO _ h)).le (Nat.le_add_right s 2)
   ·exact (AO _ h).le (Nat.le_add_right s 1)
theorem Uj {f:Nat} {x:PS}:BI x (Di l f x).2:=by
 have e:=(GS (l:=l) f).1;unfold Di;split
 ·exact ((A1 x _).tr (Kg _)).tr ((A1 _ _).tr (e _ 0 (A1 _ _).lo))
 ·split
  ·exact (A1 x _).tr (e _ 0 (A1 _ _).lo)
  ·split
   ·exact (A1 x _).tr (Dz _)
   ·exact A1 _ _
theorem Qd {s:Nat} {f:Nat} {x:PS} (h:AH l s x):AH l s (C0 l f x).2 :=
 De _ (AO _ (Uh h))
theorem Qe {f:Nat} {x:PS}:BI x (C0 l f x).2 :=
 (Uj.tr (A1 _ _)).of_k (Em _ _)
theorem Pv {s:Nat} {x:PS} {t:List UInt8} (h:AH l s x) (hi:AP l x t=true):AH l (s+1) (Al l { x with pts:=x.pts+1 } t):=by
 have hp:=ES hi;have hi2:AP l { x with pts:=x.pts+1 } t=true:=hi;unfold Al;rw [if_pos hi2];unfold AH at *;simp only;omega
theorem Et (g f:Nat):(∀ s x,AH l s x→AH l s (BZ l g f x).2)∧(∀ s x,AH l s x→AH l s (blockP l g f x).2)∧∀ s x of,AH l (s+1) x→AH l (s+1) (listP l g f x of).2:=by
 induction f with
 | zero=>exact ⟨fun s x h=>by unfold BZ;exact h.fail,fun s x h=>by unfold blockP;exact h.fail,fun s x of h=>by unfold listP;exact h.fail⟩
 | succ f ih =>
  obtain ⟨i1,i2,i3⟩:=ih;have e:=(D4 (l:=l) g).1;refine ⟨fun s x h=>?_,fun s x h=>?_,fun s x of h=>?_⟩
  ·unfold BZ;split
   ·have h1:=i2 _ _ (e _ _ 0 (Pv h (by assumption)));simp only;split
    ·exact De _ ((i2 _ _ (AO _ h1)).le (Nat.le_add_right (s+1) 1))
    ·exact De _ h1
   ·split
    ·exact De _ ((i2 _ _ (CL (AO _ h))).le (Nat.le_add_right (s+1) 1))
    ·exact Qd h
  ·unfold blockP;exact (i3 _ _ _ (AO _ h)).le (Nat.le_add_right s 1)
  ·unfold listP;split
   ·exact i3 _ _ _ (i1 _ _ h)
   ·exact De _ (AO _ h)
theorem GH (g f:Nat):(∀ x,-1≤x.k→BI x (BZ l g f x).2)∧(∀ x,-1≤x.k→BI x (blockP l g f x).2)∧∀ x of,-1≤x.k→BI x (listP l g f x of).2:=by
 induction f with
 | zero=>exact ⟨fun x _=>by unfold BZ;exact .inl rfl,fun x _=>by unfold blockP;exact .inl rfl,fun x of _=>by unfold listP;exact .inl rfl⟩
 | succ f ih =>
  obtain ⟨i1,i2,i3⟩:=ih;have e:=(GS (l:=l) g).1;refine ⟨fun x h=>?_,fun x h=>?_,fun x of h=>?_⟩
  ·unfold BZ;split
   ·have h0:BI x (Al l { x with pts:=x.pts+1 } [105,102]):=A1 (l:=l) { x with pts:=x.pts+1 } _;have h1:=h0.tr (e _ 0 h0.lo);have h2:=h1.tr (i2 _ h1.lo);simp only;split
    ·have h3:=h2.tr (A1 (l:=l) _ [101,108,115,101]);exact (h3.tr (i2 _ h3.lo)).of_k (Em _ _)
    ·exact h2.of_k (Em _ _)
   ·split
    ·have h2:=(A1 (l:=l) x [114,101,112,101,97,116]).tr (Dz (l:=l) _);exact (h2.tr (i2 _ h2.lo)).of_k (Em _ _)
    ·exact Qe
  ·unfold blockP;exact (A1 _ _).tr (i3 _ _ (A1 _ _).lo)
  ·unfold listP;split
   ·have h1:=i1 x h;exact h1.tr (i3 _ _ h1.lo)
   ·exact (A1 _ _).of_k (Em _ _)
end
abbrev Sv:=Option Addr×Nat×Nat
abbrev Ar (s:Sv):Value:=.slice s.1 s.2.1 s.2.2
abbrev Cv (sl:Sv) (k:Int) (si sn:Sv) (pts:Int):Value:=.agg #[.slice sl.1 sl.2.1 sl.2.2,.int .i64 k,.slice si.1 si.2.1 si.2.2,.slice sn.1 sn.2.1 sn.2.2,.int .i64 0,.int .i64 pts]
section
variable {l:List Tk}
theorem BO {α:Type} [Rep α] {S:Ac} {v:Value} {xs:List α} (h:RSl S v xs):∃ a n c,v=.slice a n c:=by
 apply gu ()
theorem Va {x:PS} {s:List UInt8} (h:x.k < 0∨(l.length:Int)≤x.k):AP l x s=false:=by unfold AP;rw [Jj h]
theorem Q7 {x:PS} (h:x.k < 0∨(l.length:Int)≤x.k):EC l x=false:=by unfold EC;rw [Jj h]
theorem dS {x:PS} {s:List UInt8} {k:Nat} (hk:x.k=k) (h:k < l.length):AP l x s=(l[k].1 != 2 && decide (l[k].2.1.b=s)):=by
 unfold AP;rw [Ji (by omega) (by omega)];simp only [hk,Int.toNat_natCast]
theorem Q8 {x:PS} {k:Nat} (hk:x.k=k) (h:k < l.length):EC l x=(l[k].1 == 2):=by
 unfold EC;rw [Ji (by omega) (by omega)];simp only [hk,Int.toNat_natCast]
theorem Cc {S M} (w:World) (hst:St S M w) (sl si sn:Sv) (x:PS) (hl:RSl S (Ar sl) l) (hm:l.length≤1500) (s:List UInt8) :
  Ad Tryz.prog 59 [Cv sl x.k si sn x.pts,.string ⟨s.toArray⟩] w fun v w'=>v=.bool (AP l x s)∧St S M w':=by
 unfold Ad;obtain ⟨a,n,c⟩:=sl;obtain ⟨ai,ni,ci⟩:=si;obtain ⟨an,nn,cn⟩:=sn;simp only [Ar] at hl;by_cases h1:x.k < 0
 ·have HR:=Lib.hid (Va (l:=l) (s:=s) (.inl h1));generalize x.k=k at *;go_enter Tryz.func59,Tryz.ntmps59;apply ib ()
 ·by_cases h2:(l.length:Int)≤x.k
  ·have HR:=Lib.hid (Va (l:=l) (s:=s) (.inr h2));generalize x.k=k at *;go_enter Tryz.func59,Tryz.ntmps59;apply eX ()
  ·obtain ⟨k,hk⟩:∃ k:Nat,x.k=k:=⟨x.k.toNat,by omega⟩
   have hlt:k < l.length:=by omega
   have HR:=Lib.hid (dS (s:=s) hk hlt);rw [hk];clear h1 h2 hk;obtain ⟨z1,hz1⟩:∃ z,(l[k].1 != 2)=z:=⟨_,rfl⟩
   obtain ⟨z2,hz2⟩:∃ z,decide (l[k].2.1.b=s)=z:=⟨_,rfl⟩
   cases z1
   ·go_enter Tryz.func59,Tryz.ntmps59;repeat' (first|go_skip|apply sK ()|apply sG ()|(apply gK ();go_step)|apply sX ()|(apply sN ();intro hI)|(apply sI ();intro v hp)|(apply sB ();clear hst;intro bx w hst)|fail)
    go_ret;exact ⟨_,rfl,by rw [HR.out,hz1];rfl,hst.drop⟩
   ·go_enter Tryz.func59,Tryz.ntmps59;repeat' (first|(with_reducible refine kB ?_;refine Ag hst (Aw rfl rfl Aa hz2) ?_<;>(try refine nX ?_))|apply sK ()|apply sG ()|(apply gK ();go_step)|(with_reducible refine kL ?_;refine An hst (AL Ab Ak Aa) ?_;rintro v ⟨rfl,hs⟩<;>(try refine nX ?_))|apply sX ()|(apply sN ();intro hI)|(apply sI ();intro v hp)|(apply sB ();clear hst;intro bx w hst)|fail)
    go_ret;exact ⟨_,rfl,by rw [HR.out,hz1,hz2];rfl,hst.drop⟩
theorem GN (x:PS) (s:List UInt8):(Al l x s).pts=x.pts:=by unfold Al B6;split<;>rfl
theorem Bq (x:PS) (s:List UInt8):(Al l x s).nds=x.nds:=by unfold Al B6;split<;>rfl
theorem Bg (x:PS) (s:List UInt8):(Al l x s).ins=x.ins:=by unfold Al B6;split<;>rfl
theorem Nf (x:PS) (s:List UInt8):(Al l x s).k=if AP l x s then x.k+1 else -1:=by unfold Al B6;split<;>rfl
theorem dC {S M} (w:World) (hst:St S M w) (sl si sn:Sv) (x:PS) (hl:RSl S (Ar sl) l) (hm:l.length≤1500) (s:List UInt8) :
  Ad Tryz.prog 99 [Cv sl x.k si sn x.pts,.string ⟨s.toArray⟩] w fun v w'=>v=Cv sl (Al l x s).k si sn x.pts∧St S M w':=by
 unfold Ad;have cI:=fun {M:List Chunk} (w:World) (hst:St S M w)=>Cc w hst sl si sn x hl hm s
 have hK:=Nf (l:=l) x s;have hp:=ES (l:=l) (x:=x) (s:=s);obtain ⟨a,n,c⟩:=sl;obtain ⟨ai,ni,ci⟩:=si;obtain ⟨an,nn,cn⟩:=sn;rw [hK];clear hK;generalize AP l x s=z at *
 cases z with
 | false =>
  clear hp;apply ic ()
 | true =>
  have hp:=hp rfl;apply ic ()
theorem Sx {S M} (w:World) (hst:St S M w) (sl si sn:Sv) (x:PS) (hl:RSl S (Ar sl) l) (hm:l.length≤1500) :
  Ad Tryz.prog 134 [Cv sl x.k si sn x.pts] w fun v w'=>v=.bool (EC l x)∧St S M w':=by
 unfold Ad;obtain ⟨a,n,c⟩:=sl;obtain ⟨ai,ni,ci⟩:=si;obtain ⟨an,nn,cn⟩:=sn;simp only [Ar] at hl;by_cases h1:x.k < 0
 ·have HR:=Lib.hid (Q7 (l:=l) (.inl h1));generalize x.k=k at *;go_enter Tryz.func134,Tryz.ntmps134;apply ib ()
 ·by_cases h2:(l.length:Int)≤x.k
  ·have HR:=Lib.hid (Q7 (l:=l) (.inr h2));generalize x.k=k at *;go_enter Tryz.func134,Tryz.ntmps134;apply eX ()
  ·obtain ⟨k,hk⟩:∃ k:Nat,x.k=k:=⟨x.k.toNat,by omega⟩
   have hlt:k < l.length:=by omega
   have HR:=Lib.hid (Q8 hk hlt);rw [hk];clear h1 h2 hk;obtain ⟨z1,hz1⟩:∃ z,(l[k].1 == 2)=z:=⟨_,rfl⟩
   go_enter Tryz.func134,Tryz.ntmps134;repeat' (first|apply sK ()|apply sG ()|(apply gK ();go_step)|apply sX ()|(apply sN ();intro hI)|(apply sI ();intro v hp)|(apply sB ();clear hst;intro bx w hst)|fail)
   go_ret;exact ⟨_,rfl,by rw [HR.out,hz1];rfl,hst.drop⟩
theorem QW {S:Ac}:∀ (bs:List (List UInt8)),(∀ b∈bs,b.length≤1000)→RL S (bs.map fun b=>Value.string ⟨b.toArray⟩) (bs.map fun b=>(⟨b⟩:By))
 | [],_=>RL.nil
 | b::r,h=>by
  have h1:RL S [Value.string ⟨b.toArray⟩] [(⟨b⟩:By)]:=RL.one_mk ⟨rfl,by have:=h b (.head _);unfold maxLen;simp only;omega⟩;exact h1.append (QW r fun b hb=>h b (.tail _ hb))
theorem XE (s:List UInt8) (K:List (List UInt8)) {i:Nat} (h:i < K.length):decide (s∈K.take (i+1))=(decide (s∈K.take i) || decide (K[i]=s)):=by
 rw [List.take_succ_eq_append_getElem h];by_cases h1:s∈K.take i
 ·simp only [List.mem_append,h1,true_or,decide_true,Bool.true_or]
 ·by_cases h2:K[i]=s
  ·simp only [List.mem_append,List.mem_singleton,h1,h2,false_or,decide_true,decide_false,Bool.or_true]
  ·have h3:¬ s=K[i]:=fun e=>h2 e.symm
   simp only [List.mem_append,List.mem_singleton,h1,h2,h3,false_or,decide_false,Bool.or_false]
theorem U7 {S M} (w:World) (hst:St S M w) (s:List UInt8) :
  Ad Tryz.prog 133 [.string ⟨s.toArray⟩] w fun v w'=>v=.bool (decide (s∈Ft))∧St S M w':=by
 unfold Ad;obtain ⟨R,hR⟩:∃ R,decide (s∈Ft)=R:=⟨_,rfl⟩
 rw [hR];have HR:=Lib.hid hR;clear hR;go_enter Tryz.func133,Tryz.ntmps133;repeat' ((apply Z1 ());first|(apply gK ();go_step)|fail)
 refine wp_region_lit ?_;refine AA (vs:=Ft.map fun b=>Value.string ⟨b.toArray⟩) hst Aa Aa rfl rfl (by simp [Ft,Value.cells]) rfl (by omega) (by omega) ?_;clear hst;intro x w hst;obtain ⟨S1,hS1,hst2,hx⟩:=St.freeze (α:=By) hst (QW Ft (by decide)) rfl;clear hst;have hst:=hst2;clear hst2;have hlen:12≤(Ft.map fun b=>(⟨b⟩:By)).length∧(Ft.map fun b=>(⟨b⟩:By)).length≤12:=by decide
 have hmem:∀ i,(h:i < (Ft.map fun b=>(⟨b⟩:By)).length)→Hid (decide (s∈Ft.take (i+1))=(decide (s∈Ft.take i) || decide (((Ft.map fun b=>(⟨b⟩:By))[i]).b=s))):=fun i h=>Lib.hid (by rw [XE s Ft (by simpa using h),List.getElem_map])
 have hall:Hid (Ft.take (Ft.map fun b=>(⟨b⟩:By)).length=Ft):=Lib.hid (by decide);generalize (Ft.map fun b=>(⟨b⟩:By))=K at *;generalize Ft=W at *;obtain ⟨ax,nx,cx,rfl⟩:=BO hx;(try refine nX ?_);repeat' (first|(apply gK ();go_step)|fail)
 go_loopw [4] (fun v wr=>∃ (i:Nat),i≤K.length∧v=.int .i64 i∧Hid (decide (s∈W.take i)=false)∧St S1 M wr) (fun v _=>K.length - (intOf v).toNat)
 case atStart=>exact ⟨0,Nat.zero_le _,rfl,Lib.hid rfl,hst⟩
 case round =>
  clear hst;obtain ⟨i,hi,rfl,hn,hst⟩:=hrel;by_cases hlt:i < K.length
  ·obtain ⟨z,hz⟩:∃ z,decide (K[i].b=s)=z:=⟨_,rfl⟩
   have hnx:=hmem i hlt
   cases z with
   | true =>
    repeat' (first|(with_reducible refine kB ?_;refine Ag hst (Aw rfl rfl Aa hz) ?_<;>(try refine nX ?_))|(apply gK ();go_step)|(with_reducible refine kL ?_;refine An hst (AL Ab Ak Aa) ?_;rintro v ⟨rfl,hs⟩<;>(try refine nX ?_))|apply sX ()|(apply sI ();intro v hp)|fail)
    go_ret;refine ⟨_,rfl,?_,St.weaken hS1 hst⟩;have h1:=hnx.out;rw [hn.out,hz] at h1;have h2:s∈W:=List.mem_of_mem_take (of_decide_eq_true h1);rw [← HR.out,decide_eq_true h2];rfl
   | false =>
    repeat' (first|(with_reducible refine kB ?_;refine Ag hst (Aw rfl rfl Aa hz) ?_<;>(try refine nX ?_))|(apply gK ();go_step)|(with_reducible refine kL ?_;refine An hst (AL Ab Ak Aa) ?_;rintro v ⟨rfl,hs⟩<;>(try refine nX ?_))|apply sX ()|(apply sI ();intro v hp)|fail)
    go_roundw
    case rel=>exact ⟨i+1,by omega,by go_num,Lib.hid (by rw [hnx.out,hn.out,hz];rfl),hst⟩
    case measure=>simp [intOf];omega
  ·repeat' (first|(apply gK ();go_step)|apply sX ()|fail)
   go_ret;refine ⟨_,rfl,?_,St.weaken hS1 hst⟩;have h1:=hn.out;rw [show i=K.length by omega,hall.out] at h1;rw [← HR.out,h1];rfl
end
instance jL:FlatC By (fun s=>[.string ⟨s.b.toArray⟩]):=⟨fun h=>h.1⟩
section
variable {l:List Tk}
theorem O9 {x:PS} (h:x.k < 0∨(l.length:Int)≤x.k):AI l x=(⟨[]⟩,B6 x):=by unfold AI;rw [Jj h]
theorem Pa {x:PS} {k:Nat} (hk:x.k=k) (h:k < l.length):AI l x=if l[k].1≠1∨l[k].2.1.b∈Ft then (⟨[]⟩,B6 x) else (l[k].2.1,{ x with k:=x.k+1 }):=by
 unfold AI;rw [Ji (by omega) (by omega)];simp only [hk,Int.toNat_natCast]
theorem Mm {x:PS} (h:EC l x=false):AJ l x=(0,B6 x):=by
 unfold AJ;unfold EC at h
 cases e:JZ l x with
 | none=>rfl
 | some t =>
  rw [e] at h;exact if_neg (by simpa using h)
theorem Mn {x:PS} {k:Nat} (hk:x.k=k) (h:k < l.length) (hn:EC l x=true):AJ l x=(l[k].2.2.1,{ x with k:=x.k+1 }):=by
 rw [Q8 hk h] at hn;unfold AJ;rw [Ji (by omega) (by omega)];simp only [hk,Int.toNat_natCast];rw [if_pos (by simpa using hn)]
theorem dA {S M} (w:World) (hst:St S M w) (sl si sn:Sv) (x:PS) (hl:RSl S (Ar sl) l) (hm:l.length≤1500) :
  Ad Tryz.prog 98 [Cv sl x.k si sn x.pts] w fun v w'=>v=.tuple #[.string ⟨(AI l x).1.b.toArray⟩,Cv sl (AI l x).2.k si sn x.pts]∧St S M w':=by
 unfold Ad;obtain ⟨a,n,c⟩:=sl;obtain ⟨ai,ni,ci⟩:=si;obtain ⟨an,nn,cn⟩:=sn;simp only [Ar] at hl;by_cases h1:x.k < 0∨(l.length:Int)≤x.k
 ·have HR:=Lib.hid (O9 (l:=l) h1);have hf:(B6 x).k = -1:=rfl;generalize B6 x=y at *;rw [HR.out];simp only [hf];clear HR hf;generalize x.k=k at *;rcases h1 with h1|h1
  all_goals
   go_enter Tryz.func98,Tryz.ntmps98;repeat' (first|go_skip|apply sG ()|(with_reducible refine Sl.k_guard ?_;refine Sl.guard_cases rfl ?_ ?_<;>intro hg<;>first|exact gX|(simp only [hg,Bool.not_true,Bool.not_false])<;>(try replace hg:=gN hg)<;>(try refine nX ?_))|(apply gK ();go_step)|apply sX ()|(apply sS ();clear hst;intro w hst)|(apply sB ();clear hst;intro bx w hst)|(apply sA ();clear hst;intro bk w hst)|fail)
   apply eY ()
 ·obtain ⟨k,hk⟩:∃ k:Nat,x.k=k:=⟨x.k.toNat,by omega⟩
  have hlt:k < l.length:=by omega
  have HR:=Pa hk hlt;have hf:(B6 x).k = -1:=rfl;have hg:({ x with k:=x.k+1 }:PS).k=k+1:=by simp only [hk]
  generalize B6 x=y at *;generalize ({ x with k:=x.k+1 }:PS)=y2 at *;rw [hk];clear h1 hk;obtain ⟨z1,hz1⟩:∃ z,(l[k].1 != 1)=z:=⟨_,rfl⟩
  obtain ⟨z2,hz2⟩:∃ z,decide (l[k].2.1.b∈Ft)=z:=⟨_,rfl⟩
  have cK:=fun {M:List Chunk} (w:World) (hst:St S M w)=>U7 w hst l[k].2.1.b
  rw [hz2] at cK
  cases z1 with
  | true =>
   rw [if_pos (.inl (by simpa using hz1))] at HR;rw [HR];simp only [hf];clear HR hf hg hz2 cK;go_enter Tryz.func98,Tryz.ntmps98;repeat' (first|go_skip|apply sK ()|apply sG ()|(apply gK ();go_step)|apply sX ()|apply sP ()|(apply sI ();intro v hp)|(apply sS ();clear hst;intro w hst)|(apply sB ();clear hst;intro bx w hst)|(apply sA ();clear hst;intro bk w hst)|fail)
   apply iv ()
  | false =>
   cases z2 with
   | true =>
    rw [if_pos (.inr (of_decide_eq_true hz2))] at HR;rw [HR];simp only [hf];clear HR hf hg hz2;go_enter Tryz.func98,Tryz.ntmps98;repeat' (first|apply sK ()|apply sG ()|(apply gK ();go_step)|(apply kc ();refine sc (cK _ hst) ?_;clear hst;rintro v w ⟨rfl,hst⟩)|apply sX ()|apply sP ()|(apply sI ();intro v hp)|(apply sS ();clear hst;intro w hst)|(apply sB ();clear hst;intro bx w hst)|(apply sA ();clear hst;intro bk w hst)|fail)
    apply iv ()
   | false =>
    rw [if_neg (by rintro (h|h)<;>simp_all)] at HR;rw [HR];simp only [hg];clear HR hf hg hz2;go_enter Tryz.func98,Tryz.ntmps98;repeat' (first|apply sK ()|apply sG ()|(apply gK ();go_step)|(apply kc ();refine sc (cK _ hst) ?_;clear hst;rintro v w ⟨rfl,hst⟩)|apply sX ()|apply sP ()|(apply sI ();intro v hp)|(apply sS ();clear hst;intro w hst)|(apply sB ();clear hst;intro bx w hst)|(apply sA ();clear hst;intro bk w hst)|fail)
    refine AF hst kr ?_;clear hst;intro ops;(try refine nX ?_);refine td 0 rfl ?_;refine td 1 rfl ?_;refine td 2 rfl ?_;refine td 3 rfl ?_;refine AR 4 rfl kr ?_;intro w hst K hK;(refine AB hst rfl _ BoxIn.h Aa Ab rfl A6 A5 (by simp<;>omega) ?_);clear hst;intro w hst;(try refine nX ?_);(try replace hst:=nH hst);refine Bb hK hst ?_;clear hst hK K;(try clear w);(try refine nX ?_);refine AK kr ?_;clear ops;intro w hst;repeat' (first|(apply gK ();go_step)|fail)
    refine A7 rfl (A3 rfl) (AT hst rfl _ BoxIn.h Aa rfl rfl) ?_;(try simp only [AX,List.drop_zero,List.drop_succ_cons,List.take_succ_cons,List.take_zero,As,Ap]);exact ⟨_,rfl,rfl,hst.drop.drop.drop⟩
theorem Xy {S M} (w:World) (hst:St S M w) (sl si sn:Sv) (x:PS) (hl:RSl S (Ar sl) l) (hm:l.length≤1500) :
  Ad Tryz.prog 100 [Cv sl x.k si sn x.pts] w fun v w'=>v=.tuple #[.int .i64 (AJ l x).1,Cv sl (AJ l x).2.k si sn x.pts]∧St S M w':=by
 unfold Ad;have cN:=fun {M:List Chunk} (w:World) (hst:St S M w)=>Sx w hst sl si sn x hl hm
 obtain ⟨a,n,c⟩:=sl;obtain ⟨ai,ni,ci⟩:=si;obtain ⟨an,nn,cn⟩:=sn;simp only [Ar] at hl
 cases hz:EC l x with
 | false =>
  have HR:=Lib.hid (Mm (l:=l) hz);have hf:(B6 x).k = -1:=rfl;generalize B6 x=y at *;rw [HR.out];simp only [hf];rw [hz] at cN;clear HR hf hz;generalize x.k=k at *;go_enter Tryz.func100,Tryz.ntmps100;repeat' (first|(apply gK ();go_step)|(apply kc ();refine sc (cN _ hst) ?_;clear hst;rintro v w ⟨rfl,hst⟩)|apply sX ()|(apply sS ();clear hst;intro w hst)|(apply sB ();clear hst;intro bx w hst)|(apply sA ();clear hst;intro bk w hst)|fail)
  apply eY ()
 | true =>
  have hp:=O8 hz;obtain ⟨k,hk⟩:∃ k:Nat,x.k=k:=⟨x.k.toNat,by omega⟩
  have hlt:k < l.length:=by omega
  have HR:=Mn hk hlt hz;have hg:({ x with k:=x.k+1 }:PS).k=k+1:=by simp only [hk]
  generalize ({ x with k:=x.k+1 }:PS)=y2 at *;rw [hz,hk] at cN;rw [HR,hk];simp only [hg];clear HR hz hg hp hk;go_enter Tryz.func100,Tryz.ntmps100;repeat' (first|(apply gK ();go_step)|(apply kc ();refine sc (cN _ hst) ?_;clear hst;rintro v w ⟨rfl,hst⟩)|apply sX ()|(apply sS ();clear hst;intro w hst)|(apply sB ();clear hst;intro bx w hst)|(apply sA ();clear hst;intro bk w hst)|fail)
  refine AF hst kr ?_;clear hst;intro ops;(try refine nX ?_);refine td 0 rfl ?_;refine td 1 rfl ?_;refine td 2 rfl ?_;refine td 3 rfl ?_;refine tq 4 rfl (by exact C3 rfl rfl Af) ?_;refine tx 5 rfl (Ao Ab Ak rfl Aa Aa Af Af) ?_;rintro v hp;replace hp:=iN hp;refine tx 6 rfl (Ah Ab Ak Aa Aa rfl) ?_;rintro v hp;replace hp:=iN hp;refine tx 7 rfl (Am Ab Ak Aa) ?_;rintro v7 ⟨rfl,hI⟩;refine td 8 rfl ?_;refine td 9 rfl ?_;refine AR 10 rfl kr ?_;intro w hst K hK;(refine AB hst rfl _ BoxIn.h Aa Ab rfl A6 A5 (by simp<;>omega) ?_);clear hst;intro w hst;(try refine nX ?_);(try replace hst:=nH hst);refine Bb hK hst ?_;clear hst hK K;(try clear w);(try refine nX ?_);refine AK kr ?_;clear ops;intro w hst;repeat' (first|(apply gK ();go_step)|fail)
  refine A7 rfl (A3 rfl) (AT hst rfl _ BoxIn.h Aa rfl rfl) ?_;(try simp only [AX,List.drop_zero,List.drop_succ_cons,List.take_succ_cons,List.take_zero,As,Ap]);exact ⟨_,rfl,by simp,hst.drop.drop⟩
abbrev f9 (kd n:Int) (s:List UInt8) (so:Sv):Value:=.agg #[.int .i64 kd,.int .i64 n,.string ⟨s.toArray⟩,.slice so.1 so.2.1 so.2.2]
theorem Gi {S:Ac} {kd n:Int} {s:By} {so:Sv} {of:List Int} (h1:Au kd) (h2:Au n) (h3:s.b.length≤maxLen) (h4:RSl S (Ar so) of):Rep.R S [.int .i64 kd,.int .i64 n,.string ⟨s.b.toArray⟩,.slice so.1 so.2.1 so.2.2] ((kd,n,s,of,()):Nd) :=
 Ay (cs:=[_]) ⟨rfl,h1⟩ (Ay (cs:=[_]) ⟨rfl,h2⟩ (Ay (cs:=[_]) ⟨rfl,h3⟩ (Ay (cs:=[_]) ⟨_,rfl,h4⟩ Cf)))
abbrev CU (S:Ac) (M:List Chunk) (sl si:Sv) (r:Int×PS) (v:Value) (w:World):Prop :=
 ∃ S' sn cn,S.Le S'∧v=.tuple #[.int .i64 r.1,Cv sl r.2.k si sn r.2.pts]∧(0≤r.1∧r.1≤100000)∧RL S' cn r.2.nds∧St S' (.sl (Ar sn) 139 4 r.2.nds.length cn::M) w
theorem Sy {x:PS} (h:x.k < 0) (n:Nd):Bs x n=(0,x):=if_pos h
theorem XA {x:PS} (h:¬ x.k < 0) (n:Nd):Bs x n=((x.nds.length:Int),{ x with nds:=x.nds++[n] }):=if_neg h
theorem El {S M} (w:World) (sl si sn:Sv) (cn:List Value) (x:PS) (hst:St S (.sl (Ar sn) 139 4 x.nds.length cn::M) w) (hR:RL S cn x.nds) (hb:x.nds.length≤100000) (kd n:Int) (s:By) (so:Sv) (of:List Int) (hN:Rep.R S [.int .i64 kd,.int .i64 n,.string ⟨s.b.toArray⟩,.slice so.1 so.2.1 so.2.2] ((kd,n,s,of,()):Nd)) :
  Ad Tryz.prog 62 [Cv sl x.k si sn x.pts,f9 kd n s.b so] w (CU S M sl si (Bs x (kd,n,s,of,()))):=by
 unfold Ad;obtain ⟨a,na,c⟩:=sl;obtain ⟨ai,ni,ci⟩:=si;obtain ⟨an,nn,cn'⟩:=sn;obtain ⟨ao,no,co⟩:=so;simp only [Ar] at hst;by_cases h:x.k < 0
 ·rw [Sy h];have HP:=Lib.hid (show ∀ w',St S (.sl (.slice an nn cn') 139 4 x.nds.length cn::M) w'→CU S M (a,na,c) (ai,ni,ci) (0,x) (.tuple #[.int .i64 0,Cv (a,na,c) x.k (ai,ni,ci) (an,nn,cn') x.pts]) w' from fun w' h=>⟨S,(an,nn,cn'),cn,.refl _,rfl,⟨Int.le_refl _,by simp only;omega⟩,hR,h⟩);generalize CU S M (a,na,c) (ai,ni,ci) (0,x)=PP at *;generalize x.k=k at *;go_enter Tryz.func62,Tryz.ntmps62;repeat' (first|(apply gK ();go_step)|apply sX ()|(apply sB ();clear hst;intro bx w hst)|(apply sA ();clear hst;intro bk w hst)|fail)
  refine AF hst kr ?_;clear hst;intro ops;(try refine nX ?_);refine td 0 rfl ?_;refine td 1 rfl ?_;refine AR 2 rfl kr ?_;intro w hst K hK;(refine AB hst rfl _ BoxIn.h Aa Ab rfl A6 A5 (by simp<;>omega) ?_);clear hst;intro w hst;(try refine nX ?_);(try replace hst:=nH hst);refine Bb hK hst ?_;clear hst hK K;(try clear w);(try refine nX ?_);refine AK kr ?_;clear ops;intro w hst;repeat' (first|(apply gK ();go_step)|fail)
  refine A7 rfl (A3 rfl) (AT hst rfl _ BoxIn.h Aa rfl rfl) ?_;(try simp only [AX,List.drop_zero,List.drop_succ_cons,List.take_succ_cons,List.take_zero,As,Ap]);exact ⟨_,rfl,HP.out _ hst.drop.drop.drop⟩
 ·rw [XA h];have HP:=Lib.hid (show ∀ w' sn' ,St S (.sl (Ar sn') 139 4 (x.nds.length+1) (cn++[.int .i64 kd,.int .i64 n,.string ⟨s.b.toArray⟩,.slice ao no co])::M) w'→CU S M (a,na,c) (ai,ni,ci) ((x.nds.length:Int),{ x with nds:=x.nds++[(kd,n,s,of,())] }) (.tuple #[.int .i64 (x.nds.length:Int),Cv (a,na,c) x.k (ai,ni,ci) sn' x.pts]) w' from fun w' sn' h=>⟨S,sn',_,.refl _,rfl,⟨Int.natCast_nonneg _,by simp only;omega⟩,hR.append (RL.one_mk hN),by simpa using h⟩);generalize CU S M (a,na,c) (ai,ni,ci) ((x.nds.length:Int),{ x with nds:=x.nds++[(kd,n,s,of,())] })=PP at *;generalize x.nds.length=nl at *;generalize x.k=k at *;go_enter Tryz.func62,Tryz.ntmps62;repeat' ((apply Z3 ());first|(apply gK ();go_step)|apply sX ()|(apply sB ();clear hst;intro bx w hst)|(apply sA ();clear hst;intro bk w hst)|fail)
  repeat' (first|(apply gK ();go_step)|apply sX ()|fail)
  refine AA (vs:=[(f9 kd n s.b (ao,no,co))]) hst Aa Aa rfl rfl (by simp [Value.cells]) rfl (by omega) (by omega) ?_;clear hst;intro u w hst;refine nX ?_;refine AG (j:=0) hst Ab Ab SlIn.h rfl Aa Aa Aa (by simp [Value.cells,Value.oneCell']) (by omega) (by omega) (by decide) ?_;clear hst;intro v' w hst;refine nX ?_;(try replace hst:=nH hst);replace hst:=hst.drop;obtain ⟨a',c',rfl⟩:=sl_formk (k:=3) hst rfl;repeat' (first|(apply gK ();go_step)|apply sX ()|(apply sS ();clear hst;intro w hst)|fail)
  refine AF hst kr ?_;clear hst;intro ops;(try refine nX ?_);refine td 0 rfl ?_;refine td 1 rfl ?_;refine td 2 rfl ?_;refine tq 3 rfl (by exact G6 Ab SlIn.h Aa) ?_;refine tq 4 rfl (by exact C3 rfl rfl Af) ?_;refine td 5 rfl ?_;refine td 6 rfl ?_;refine AR 7 rfl kr ?_;intro w hst K hK;(refine AB hst rfl _ BoxIn.h Aa Ab rfl A6 A5 (by simp<;>omega) ?_);clear hst;intro w hst;(try refine nX ?_);(try replace hst:=nH hst);refine Bb hK hst ?_;clear hst hK K;(try clear w);(try refine nX ?_);refine AK kr ?_;clear ops;intro w hst;repeat' (first|(apply gK ();go_step)|fail)
  refine A7 rfl (A3 rfl) (AT hst rfl _ BoxIn.h Aa rfl rfl) ?_;(try simp only [AX,List.drop_zero,List.drop_succ_cons,List.take_succ_cons,List.take_zero,As,Ap]);refine ⟨_,rfl,?_⟩;have:=HP.out _ (a',nl+1,c') hst.drop.drop.drop
  simpa using this
end
end Go.Proofs.YtmmbidoldegemaaGreatDoor
