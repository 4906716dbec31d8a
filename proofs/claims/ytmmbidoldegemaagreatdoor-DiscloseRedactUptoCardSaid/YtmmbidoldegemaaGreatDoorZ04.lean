/- Part 5 of a proof; no conditions. -/
import Derived.Test.YtmmbidoldegemaaGreatDoorZ03
set_option linter.all false
set_option maxRecDepth 8000
set_option maxHeartbeats 8000000
namespace Go.Proofs.YtmmbidoldegemaaGreatDoor
open Go.RowKit Go.Sl
abbrev Tk:=Int×Cv×Int×Int×Unit
def AX (c:UInt8):Int :=
 if (97≤c.toNat∧c.toNat≤122)∨(65≤c.toNat∧c.toNat≤90) then 1
 else if 48≤c.toNat∧c.toNat≤57 then 2
 else if c.toNat=95 then 3
 else if c.toNat=9∨c.toNat=10∨c.toNat=32 then 4
 else 0
def Ey (s:List UInt8) (i:Nat):Nat :=
 let two:=if i+2≤s.length then (s.drop i).take 2 else []
 if two=[61,61]∨two=[38,38]∨two=[124,124]∨two=[62,61] then 2
 else
  let c:=(s.getD i 0).toNat
  if c=123∨c=125∨c=40∨c=41∨c=59∨c=61∨c=43∨c=45∨c=42∨c=60∨c=33 then 1 else 0
def K2 (w:List UInt8):Int:=w.foldl (fun n c=>10 * n+(c.toNat:Int) - 48) 0
def GT (w:List UInt8):Int:=if w.length > 5∨(w.getD 0 0=48∧w.length > 1) then -1 else if K2 w > 65535 then -1 else K2 w
def B8 (s:List UInt8) (k:Int):Nat→Nat→Nat
 | 0,n=>n
 | f+1,n=>if n < s.length then
   let c:=AX (s.getD n 0)
   if c≠2∧(k≠1∨(c≠1∧c≠3)) then n else B8 s k f (n+1)
  else n
def CW (s:List UInt8):Nat→Nat→List Tk→List Tk×Int
 | 0,_,out=>(out,0)
 | f+1,i,out=>if i < s.length then
   let k:=AX (s.getD i 0)
   if k=4 then CW s f (i+1) out
   else if k=3 then ([],3)
   else if k=0 then
    let n:=Ey s i
    if n=0 then ([],3) else CW s f (i+n) (out++[((3,⟨(s.drop i).take n⟩,0,(i:Int),()):Tk)])
   else
    let n:=B8 s k s.length (i+1)
    let w:=(s.drop i).take (n - i)
    if k=1∧n - i > 12 then ([],3)
    else if k=2 then
     let v:=GT w
     let nx:=if n < s.length then AX (s.getD n 0) else 0
     if v < 0∨nx=1∨nx=3 then ([],3) else CW s f n (out++[((k,⟨w⟩,v,(i:Int),()):Tk)])
    else CW s f n (out++[((k,⟨w⟩,0,(i:Int),()):Tk)])
  else (out,0)
def CF (s:List UInt8):List Tk×Int:=if s.length > 1500 then ([],2) else CW s (s.length+1) 0 []
abbrev Ip:=Cv×Int×Int×Int×Unit
abbrev Nd:=Int×Int×Cv×List Int×Unit
abbrev Pg:=List Ip×List Nd×Int×Int×Unit
structure PS where
 k:Int
 ins:List Ip
 nds:List Nd
 pts:Int
 deriving DecidableEq
variable (l:List Tk)
def KL (x:PS):Option Tk:=if x.k < 0 then none else l[x.k.toNat]?
def AS (x:PS) (s:List UInt8):Bool:=match KL l x with|some t=>t.1 != 2 && decide (t.2.1.b=s)|none=>false
def Ci (x:PS):PS:={ x with k:=-1 }
def Al (x:PS) (s:List UInt8):PS:=if AS l x s then { x with k:=x.k+1 } else Ci x
def FU:List (List UInt8):=[[105,110,112,117,116],[115,116,114,97,112],[102,117,115,101],[115,108,111,116],[109,97,105,108],[108,101,116],[105,102],[101,108,115,101],[114,101,112,101,97,116],[110,111,116,101],[104,97,108,116],[97,99,99,101,112,116]]
def AM (x:PS):Cv×PS:=match KL l x with
 | some t=>if t.1≠1∨t.2.1.b∈FU then (⟨[]⟩,Ci x) else (t.2.1,{ x with k:=x.k+1 })
 | none=>(⟨[]⟩,Ci x)
def E6 (x:PS):Bool:=match KL l x with|some t=>t.1 == 2|none=>false
def AN (x:PS):Int×PS:=match KL l x with
 | some t=>if t.1=2 then (t.2.2.1,{ x with k:=x.k+1 }) else (0,Ci x)
 | none=>(0,Ci x)
def BA (x:PS) (n:Nd):Int×PS:=if x.k < 0 then (0,x) else ((x.nds.length:Int),{ x with nds:=x.nds++[n] })
def Dd (x:PS):Ip×PS :=
 let s:=(AM l (Al l x [105,110,112,117,116])).1
 let y:=(AM l (Al l x [105,110,112,117,116])).2
 if AS l y [115,116,114,97,112] then ((s,1,(AN l (Al l y [115,116,114,97,112])).1,0,()),(AN l (Al l y [115,116,114,97,112])).2)
 else if AS l y [102,117,115,101] then
  let a:=AN l (Al l y [102,117,115,101])
  ((s,2,a.1,(AN l a.2).1,()),(AN l a.2).2)
 else if AS l y [115,108,111,116] then ((s,3,0,0,()),Al l y [115,108,111,116])
 else ((s,4,0,(AN l (Al l y [109,97,105,108])).1,()),(AN l (Al l y [109,97,105,108])).2)
def C8 (x:PS):PS:=Al l { (Dd l x).2 with ins:=(Dd l x).2.ins++[(Dd l x).1] } [59]
def CU (x:PS) (level:Nat):Int :=
 if level=0∧AS l x [124,124] then 9 else if level=1∧AS l x [38,38] then 8
 else if level=2∧AS l x [60] then 6 else if level=2∧AS l x [61,61] then 7
 else if level=3∧AS l x [43] then 3 else if level=3∧AS l x [45] then 4
 else if level=4∧AS l x [42] then 5 else 0
mutual
def A0:Nat→PS→Nat→Int×PS
 | 0,x,_=>(0,Ci x)
 | f+1,x,level=>if level=5 then unaryP f x else
   let (a,y):=A0 f x (level+1)
   opsP f a y level
def opsP:Nat→Int→PS→Nat→Int×PS
 | 0,_,y,_=>(0,Ci y)
 | f+1,a,y,level =>
   let kind:=CU l y level
   if kind > 0 then
    let (b,z):=A0 f { y with k:=y.k+1 } (level+1)
    let (a,y):=BA z (kind,0,⟨[]⟩,[a,b],())
    if level=2 then (a,y) else opsP f a y level
   else (a,y)
def unaryP:Nat→PS→Int×PS
 | 0,x=>(0,Ci x)
 | f+1,x =>
   if AS l x [33] then let (a,y):=unaryP f (Al l x [33]);BA y (10,0,⟨[]⟩,[a],())
   else if AS l x [40] then let (a,y):=A0 f (Al l x [40]) 0;(a,Al l y [41])
   else if E6 l x then let (n,y):=AN l x;BA y (1,n,⟨[]⟩,[],())
   else let (s,y):=AM l x;BA y (2,0,s,[],())
end
def DB (f:Nat) (x:PS):Nd×PS :=
 if AS l x [108,101,116] then
  let (s,y):=AM l (Al l x [108,101,116])
  let (a,z):=A0 l f (Al l y [61]) 0
  ((11,0,s,[a],()),z)
 else if AS l x [110,111,116,101] then let (a,y):=A0 l f (Al l x [110,111,116,101]) 0;((14,0,⟨[]⟩,[a],()),y)
 else if AS l x [104,97,108,116] then let (m,y):=AN l (Al l x [104,97,108,116]);((15,m,⟨[]⟩,[],()),y)
 else ((16,0,⟨[]⟩,[],()),Al l x [97,99,99,101,112,116])
def Dl (f:Nat) (x:PS):Int×PS:=BA (Al l (DB l f x).2 [59]) (DB l f x).1
mutual
def Ce (g:Nat):Nat→PS→Int×PS
 | 0,x=>(0,Ci x)
 | f+1,x =>
   if AS l x [105,102] then
    let pts:=x.pts
    let (a,y):=A0 l g (Al l { x with pts:=x.pts+1 } [105,102]) 0
    let (b,z):=blockP g f y
    if AS l z [101,108,115,101] then
     let (c,w):=blockP g f (Al l z [101,108,115,101])
     BA w (12,pts,⟨[]⟩,[a,b,c],())
    else BA z (12,pts,⟨[]⟩,[a,b],())
   else if AS l x [114,101,112,101,97,116] then
    let (n,y):=AN l (Al l x [114,101,112,101,97,116])
    let (b,z):=blockP g f y
    BA z (13,n,⟨[]⟩,[b],())
   else Dl l g x
def blockP (g:Nat):Nat→PS→Int×PS
 | 0,x=>(0,Ci x)
 | f+1,x=>listP g f (Al l x [123]) []
def listP (g:Nat):Nat→PS→List Int→Int×PS
 | 0,x,_=>(0,Ci x)
 | f+1,y,of=>if y.k≥0∧AS l y [125]=false then let (s,z):=Ce g f y;listP g f z (of++[s]) else BA (Al l y [125]) (17,0,⟨[]⟩,of,())
end
def B6:Nat→PS→PS
 | 0,x=>x
 | f+1,x=>if AS l x [105,110,112,117,116] then B6 f (C8 l x) else x
def Ft (g:Nat):Nat→PS→List Int→Int×PS
 | 0,x,_=>(0,Ci x)
 | f+1,x,of=>if x.k≥0∧x.k < (l.length:Int) then let (s,y):=Ce l g g x;Ft g f y (of++[s]) else BA x (17,0,⟨[]⟩,of,())
def EO:List Tk→Int→Int→Int
 | [],_,most=>most
 | t::r,n,most =>
   let n:=if t.1=3∧(t.2.1.b=[40]∨t.2.1.b=[123]) then n+1 else n
   let n:=if t.1=3∧(t.2.1.b=[41]∨t.2.1.b=[125]) then n - 1 else n
   EO r n (max most n)
def KC:Pg:=([],[],0,0,())
def Lw:List UInt8:=[105,110,112,117,116,32,115,32,115,116,114,97,112,32,48,59,32,105,102,32,115,32,61,61,32,49,32,123,32,105,102,32,115,32,61,61,32,48,32,123,32,104,97,108,116,32,51,59,32,125,32,125]
set_option maxRecDepth 100000 in
theorem Yb:CF Lw=(([(1,⟨[105,110,112,117,116]⟩,0,0,()),(1,⟨[115]⟩,0,6,()),(1,⟨[115,116,114,97,112]⟩,0,8,()),(2,⟨[48]⟩,0,14,()),(3,⟨[59]⟩,0,15,()),(1,⟨[105,102]⟩,0,17,()),(1,⟨[115]⟩,0,20,()),(3,⟨[61,61]⟩,0,22,()),(2,⟨[49]⟩,1,25,()),(3,⟨[123]⟩,0,27,()),(1,⟨[105,102]⟩,0,29,()),(1,⟨[115]⟩,0,32,()),(3,⟨[61,61]⟩,0,34,()),(2,⟨[48]⟩,0,37,()),(3,⟨[123]⟩,0,39,()),(1,⟨[104,97,108,116]⟩,0,41,()),(2,⟨[51]⟩,3,46,()),(3,⟨[59]⟩,0,47,()),(3,⟨[125]⟩,0,49,()),(3,⟨[125]⟩,0,51,())]:List Tk),(0:Int)):=by decide +kernel
section
variable {l:List Tk}
def AL (l:List Tk) (s:Nat) (x:PS):Prop :=
 ((x.nds.length:Int)+s≤x.k∧x.k≤l.length∧0≤x.pts∧x.pts≤x.k)∨(x.k = -1∧(x.nds.length:Int)≤l.length∧0≤x.pts∧x.pts≤l.length)
def BT (x y:PS):Prop:=y.k = -1∨(0≤x.k∧x.k < y.k)
def Eb (x y:PS):Prop:=y.k = -1∨(0≤x.k∧x.k≤y.k)
def BY (l:List Tk) (x:PS):Nat:=if x.k < 0 then 0 else l.length - x.k.toNat
theorem BT.trE {x y z} (h:BT x y) (g:Eb y z):BT x z:=by unfold BT Eb at *;omega
theorem Eb.tr {x y z} (h:Eb x y) (g:BT y z):BT x z:=by unfold BT Eb at *;omega
theorem BT.tr {x y z} (h:BT x y) (g:BT y z):BT x z:=by unfold BT at *;omega
theorem Eb.trE {x y z} (h:Eb x y) (g:Eb y z):Eb x z:=by unfold Eb at *;omega
theorem BT.E {x y} (h:BT x y):Eb x y:=by unfold BT Eb at *;omega
theorem BT.lo {x y} (h:BT x y): -1≤y.k:=by unfold BT at *;omega
theorem Eb.lo {x y} (h:Eb x y): -1≤y.k:=by unfold Eb at *;omega
theorem Eb.rf {x} (h: -1≤x.k):Eb x x:=by unfold Eb;omega
theorem BT.of_k {x y z} (h:BT x y) (e:z.k=y.k):BT x z:=by unfold BT at *;omega
theorem AL.le {s s' x} (h:AL l s x) (hs:s'≤s):AL l s' x:=by unfold AL at *;omega
theorem AL.lo {s x} (h:AL l s x): -1≤x.k:=by unfold AL at h;omega
theorem AL.hi {s x} (h:AL l s x):x.k≤l.length:=by unfold AL at h;omega
theorem AL.nds {s x} (h:AL l s x):x.nds.length≤l.length:=by unfold AL at h;omega
theorem AL.pts0 {s x} (h:AL l s x):0≤x.pts:=by unfold AL at h;omega
theorem AL.pts1 {s x} (h:AL l s x):x.pts≤l.length:=by unfold AL at h;omega
theorem AL.fail {s s' x} (h:AL l s x):AL l s' (Ci x):=by
 have a:=h.nds;have b:=h.pts0;have c:=h.pts1;exact .inr ⟨rfl,by show (x.nds.length:Int)≤l.length;omega,b,c⟩
theorem Ir {x y} (h:BT x y) (hy:y.k≤l.length):BY l y=0∨BY l y+1≤BY l x:=by
 unfold BT at h;unfold BY;split<;>split<;>omega
theorem Ms {x y} (h:Eb x y) (hy:y.k≤l.length):BY l y≤BY l x:=by
 unfold Eb at h;unfold BY;split<;>split<;>omega
theorem JN (x):BY l x≤l.length:=by unfold BY;split<;>omega
theorem LC {x:PS} (h0:0≤x.k) (h:x.k < l.length):1≤BY l x:=by unfold BY;rw [if_neg (by omega)];omega
theorem J7 {x} (h:x.k < 0∨(l.length:Int)≤x.k):KL l x=none:=by
 unfold KL;split
 ·rfl
 ·exact List.getElem?_eq_none (by omega)
theorem J6 {x:PS} (h0:0≤x.k) (h:x.k < l.length):KL l x=some (l[x.k.toNat]'(by omega)):=by
 unfold KL;rw [if_neg (by omega),List.getElem?_eq_getElem (by omega)]
theorem Io {x t} (h:KL l x=some t):0≤x.k∧x.k < l.length:=by
 refine Decidable.byContradiction fun n=>?_
 rw [J7 (by omega)] at h;cases h
theorem Fl {x s} (h:AS l x s=true):0≤x.k∧x.k < l.length:=by
 unfold AS at h;split at h
 ·exact Io (by assumption)
 ·cases h
theorem Qf {x} (h:E6 l x=true):0≤x.k∧x.k < l.length:=by
 unfold E6 at h;split at h
 ·exact Io (by assumption)
 ·cases h
theorem AR {s x} (t) (h:AL l s x):AL l (s+1) (Al l x t):=by
 unfold Al;split
 ·have:=Fl (l:=l) (by assumption);unfold AL at *;simp only;omega
 ·exact h.fail
theorem A9 (x t):BT x (Al l x t):=by
 unfold Al;split
 ·have:=Fl (l:=l) (by assumption);unfold BT;simp only;omega
 ·exact .inl rfl
theorem Jb {s x} (h:AL l s x):AL l (s+1) (AM l x).2:=by
 unfold AM;split
 ·split
  ·exact h.fail
  ·have:=Io (l:=l) (by assumption);unfold AL at *;simp only;omega
 ·exact h.fail
theorem K5 (x):BT x (AM l x).2:=by
 unfold AM;split
 ·split
  ·exact .inl rfl
  ·have:=Io (l:=l) (by assumption);unfold BT;simp only;omega
 ·exact .inl rfl
theorem CZ {s x} (h:AL l s x):AL l (s+1) (AN l x).2:=by
 unfold AN;split
 ·split
  ·have:=Io (l:=l) (by assumption);unfold AL at *;simp only;omega
  ·exact h.fail
 ·exact h.fail
theorem DV (x):BT x (AN l x).2:=by
 unfold AN;split
 ·split
  ·have:=Io (l:=l) (by assumption);unfold BT;simp only;omega
  ·exact .inl rfl
 ·exact .inl rfl
theorem Dy {s x} (n) (h:AL l (s+1) x):AL l s (BA x n).2:=by
 unfold BA;split
 ·exact h.le (by omega)
 ·unfold AL at *;simp only [List.length_append,List.length_cons,List.length_nil];omega
theorem EK (x n):(BA x n).2.k=x.k:=by unfold BA;split<;>rfl
theorem KN {x lv} (h:CU l x lv > 0):0≤x.k∧x.k < l.length:=by
 unfold CU at h
 repeat' split at h
 all_goals first
  | omega
  | exact Fl (l:=l) (by rename_i g;exact g.2)
theorem PF {s x} (h:AL l s x) (h0:0≤x.k∧x.k < l.length):AL l (s+1) { x with k:=x.k+1 }:=by
 unfold AL at *;simp only;omega
theorem Er (f):(∀ s x lv,AL l s x→AL l s (A0 l f x lv).2)∧(∀ s a x lv,AL l s x→AL l s (opsP l f a x lv).2)∧∀ s x,AL l s x→AL l s (unaryP l f x).2:=by
 induction f with
 | zero=>exact ⟨fun s x lv h=>by unfold A0;exact h.fail,fun s a x lv h=>by unfold opsP;exact h.fail,fun s x h=>by unfold unaryP;exact h.fail⟩
 | succ f ih =>
  obtain ⟨i1,i2,i3⟩:=ih;refine ⟨fun s x lv h=>?_,fun s a x lv h=>?_,fun s x h=>?_⟩
  ·unfold A0;split
   ·exact i3 _ _ h
   ·exact i2 _ _ _ _ (i1 _ _ _ h)
  ·unfold opsP;simp only;split
   ·have L:=KN (l:=l) (by assumption);have h1:=Dy (CU l x lv,0,⟨[]⟩,[a,(A0 l f { x with k:=x.k+1 } (lv+1)).1],()) (i1 _ _ (lv+1) (PF h L));split
    ·exact h1
    ·exact i2 _ _ _ _ h1
   ·exact h
  ·unfold unaryP;split
   ·exact Dy _ (i3 _ _ (AR _ h))
   ·split
    ·exact (AR _ (i1 _ _ _ (AR _ h))).le (Nat.le_add_right s 2)
    ·split
     ·exact Dy _ (CZ h)
     ·exact Dy _ (Jb h)
theorem Hy (f):(∀ x lv,-1≤x.k→BT x (A0 l f x lv).2)∧(∀ a x lv,-1≤x.k→Eb x (opsP l f a x lv).2)∧∀ x,-1≤x.k→BT x (unaryP l f x).2:=by
 induction f with
 | zero=>exact ⟨fun x lv _=>by unfold A0;exact .inl rfl,fun a x lv _=>by unfold opsP;exact .inl rfl,fun x _=>by unfold unaryP;exact .inl rfl⟩
 | succ f ih =>
  obtain ⟨i1,i2,i3⟩:=ih;refine ⟨fun x lv h=>?_,fun a x lv h=>?_,fun x h=>?_⟩
  ·unfold A0;split
   ·exact i3 _ h
   ·exact (i1 _ _ h).trE (i2 _ _ _ (i1 _ _ h).lo)
  ·unfold opsP;simp only;split
   ·have L:=KN (l:=l) (by assumption);have h1:=(i1 { x with k:=x.k+1 } (lv+1) (by simp only;omega)).of_k (EK (A0 l f { x with k:=x.k+1 } (lv+1)).2 (CU l x lv,0,⟨[]⟩,[a,(A0 l f { x with k:=x.k+1 } (lv+1)).1],()));have h2:Eb x { x with k:=x.k+1 }:=.inr (by simp only;omega);split
    ·exact (h2.tr h1).E
    ·exact h2.trE (h1.E.trE (i2 _ _ _ h1.lo))
   ·exact Eb.rf h
  ·unfold unaryP;split
   ·exact ((A9 _ _).trE (i3 _ (A9 _ _).lo).E).of_k (EK _ _)
   ·split
    ·exact ((A9 _ _).trE (i1 _ _ (A9 _ _).lo).E).tr (A9 _ _)
    ·split
     ·exact (DV _).of_k (EK _ _)
     ·exact (K5 _).of_k (EK _ _)
theorem Vo {s f x} (h:AL l s x):AL l s (DB l f x).2:=by
 have e:=(Er (l:=l) f).1;unfold DB;split
 ·exact (e _ _ 0 (AR _ (Jb (AR _ h)))).le (Nat.le_add_right s 3)
 ·split
  ·exact (e _ _ 0 (AR _ h)).le (Nat.le_add_right s 1)
  ·split
   ·exact (CZ (AR _ h)).le (Nat.le_add_right s 2)
   ·exact (AR _ h).le (Nat.le_add_right s 1)
theorem Vq {f x}:BT x (DB l f x).2:=by
 have e:=(Hy (l:=l) f).1;unfold DB;split
 ·exact ((A9 x _).tr (K5 _)).tr ((A9 _ _).tr (e _ 0 (A9 _ _).lo))
 ·split
  ·exact (A9 x _).tr (e _ 0 (A9 _ _).lo)
  ·split
   ·exact (A9 x _).tr (DV _)
   ·exact A9 _ _
theorem Rh {s f x} (h:AL l s x):AL l s (Dl l f x).2 :=
 Dy _ (AR _ (Vo h))
theorem Ri {f x}:BT x (Dl l f x).2 :=
 (Vq.tr (A9 _ _)).of_k (EK _ _)
theorem Qw {s x t} (h:AL l s x) (hi:AS l x t=true):AL l (s+1) (Al l { x with pts:=x.pts+1 } t):=by
 have L:=Fl hi;have hi2:AS l { x with pts:=x.pts+1 } t=true:=hi;unfold Al;rw [if_pos hi2];unfold AL at *;simp only;omega
theorem ES (g f):(∀ s x,AL l s x→AL l s (Ce l g f x).2)∧(∀ s x,AL l s x→AL l s (blockP l g f x).2)∧∀ s x of,AL l (s+1) x→AL l (s+1) (listP l g f x of).2:=by
 induction f with
 | zero=>exact ⟨fun s x h=>by unfold Ce;exact h.fail,fun s x h=>by unfold blockP;exact h.fail,fun s x of h=>by unfold listP;exact h.fail⟩
 | succ f ih =>
  obtain ⟨i1,i2,i3⟩:=ih;have e:=(Er (l:=l) g).1;refine ⟨fun s x h=>?_,fun s x h=>?_,fun s x of h=>?_⟩
  ·unfold Ce;split
   ·have h1:=i2 _ _ (e _ _ 0 (Qw h (by assumption)));simp only;split
    ·exact Dy _ ((i2 _ _ (AR _ h1)).le (Nat.le_add_right (s+1) 1))
    ·exact Dy _ h1
   ·split
    ·exact Dy _ ((i2 _ _ (CZ (AR _ h))).le (Nat.le_add_right (s+1) 1))
    ·exact Rh h
  ·unfold blockP;exact (i3 _ _ _ (AR _ h)).le (Nat.le_add_right s 1)
  ·unfold listP;split
   ·exact i3 _ _ _ (i1 _ _ h)
   ·exact Dy _ (AR _ h)
theorem Hm (g f):(∀ x,-1≤x.k→BT x (Ce l g f x).2)∧(∀ x,-1≤x.k→BT x (blockP l g f x).2)∧∀ x of,-1≤x.k→BT x (listP l g f x of).2:=by
 induction f with
 | zero=>exact ⟨fun x _=>by unfold Ce;exact .inl rfl,fun x _=>by unfold blockP;exact .inl rfl,fun x of _=>by unfold listP;exact .inl rfl⟩
 | succ f ih =>
  obtain ⟨i1,i2,i3⟩:=ih;have e:=(Hy (l:=l) g).1;refine ⟨fun x h=>?_,fun x h=>?_,fun x of h=>?_⟩
  ·unfold Ce;split
   ·have h0:BT x (Al l { x with pts:=x.pts+1 } [105,102]):=A9 (l:=l) { x with pts:=x.pts+1 } _;have h1:=h0.tr (e _ 0 h0.lo);have h2:=h1.tr (i2 _ h1.lo);simp only;split
    ·have h3:=h2.tr (A9 (l:=l) _ [101,108,115,101]);exact (h3.tr (i2 _ h3.lo)).of_k (EK _ _)
    ·exact h2.of_k (EK _ _)
   ·split
    ·have h2:=(A9 (l:=l) x [114,101,112,101,97,116]).tr (DV (l:=l) _);exact (h2.tr (i2 _ h2.lo)).of_k (EK _ _)
    ·exact Ri
  ·unfold blockP;exact (A9 _ _).tr (i3 _ _ (A9 _ _).lo)
  ·unfold listP;split
   ·have h1:=i1 x h;exact h1.tr (i3 _ _ h1.lo)
   ·exact (A9 _ _).of_k (EK _ _)
end
end Go.Proofs.YtmmbidoldegemaaGreatDoor
namespace Go.Proofs.YtmmbidoldegemaaGreatDoor
open Go.RowKit Go.Sl Go.Proofs.Tryz
abbrev Sv:=Option Addr×Nat×Nat
abbrev Ar (s:Sv):Value:=.slice s.1 s.2.1 s.2.2
abbrev CI (sl:Sv) (k:Int) (si sn:Sv) (pts:Int):Value:=.agg #[.slice sl.1 sl.2.1 sl.2.2,.int .i64 k,.slice si.1 si.2.1 si.2.2,.slice sn.1 sn.2.1 sn.2.2,.int .i64 0,.int .i64 pts]
section
variable {l:List Tk}
theorem BQ {α:Type} [Z α] {S v} {xs:List α} (h:RSl S v xs):∃ a n c,v=.slice a n c:=by
 apply jr ()
theorem Wj {x s} (h:x.k < 0∨(l.length:Int)≤x.k):AS l x s=false:=by unfold AS;rw [J7 h]
theorem Sd {x} (h:x.k < 0∨(l.length:Int)≤x.k):E6 l x=false:=by unfold E6;rw [J7 h]
theorem ga {x:PS} {s} {k:Nat} (hk:x.k=k) (h):AS l x s=(l[k].1 != 2 && decide (l[k].2.1.b=s)):=by
 unfold AS;rw [J6 (by omega) (by omega)];simp only [hk,Int.toNat_natCast]
theorem Se {x:PS} {k:Nat} (hk:x.k=k) (h):E6 l x=(l[k].1 == 2):=by
 unfold E6;rw [J6 (by omega) (by omega)];simp only [hk,Int.toNat_natCast]
theorem Cr {S M} (w) (V:St S M w) (sl si sn x) (hl:RSl S (Ar sl) l) (hm:l.length≤1500) (s):
  Ac prog 59 [CI sl x.k si sn x.pts,.string ⟨s.toArray⟩] w fun v w'=>v=.bool (AS l x s)∧St S M w':=by
 unfold Ac;obtain ⟨a,n,c⟩:=sl;obtain ⟨ai,ni,ci⟩:=si;obtain ⟨an,nn,cn⟩:=sn;simp only [Ar] at hl;by_cases h1:x.k < 0
 ·have HR:=Lib.hid (Wj (l:=l) (s:=s) (.inl h1));generalize x.k=k at *;go_enter func59,ntmps59;apply jX ()
 ·by_cases h2:(l.length:Int)≤x.k
  ·have HR:=Lib.hid (Wj (l:=l) (s:=s) (.inr h2));generalize x.k=k at *;go_enter func59,ntmps59;apply jY ()
  ·obtain ⟨k,hk⟩:∃ k:Nat,x.k=k:=⟨x.k.toNat,by omega⟩
   have hlt:k < l.length:=by omega
   have HR:=Lib.hid (ga (s:=s) hk hlt);rw [hk];clear h1 h2 hk;obtain ⟨z1,hz1⟩:∃ z,(l[k].1 != 2)=z:=⟨_,rfl⟩
   obtain ⟨z2,hz2⟩:∃ z,decide (l[k].2.1.b=s)=z:=⟨_,rfl⟩
   cases z1
   ·go_enter func59,ntmps59;repeat' (first|go_skip|apply sK ()|apply sG ()|(apply O ();go_step)|apply sX ()|(apply sN ();intro hI)|(apply sI ();intro v L)|(apply sB ();clear V;intro bx w V)|fail)
    go_ret;exact ⟨_,rfl,by rw [HR.out,hz1];rfl,V.drop⟩
   ·go_enter func59,ntmps59;repeat' (first|(apply tB ();refine Ag V (AA rfl rfl Y hz2) ?_<;>apply nW ())|apply sK ()|apply sG ()|(apply O ();go_step)|(apply tL ();refine An V (AO X Ak Y) ?_;rintro v ⟨rfl,hs⟩<;>apply nW ())|apply sX ()|(apply sN ();intro hI)|(apply sI ();intro v L)|(apply sB ();clear V;intro bx w V)|fail)
    go_ret;exact ⟨_,rfl,by rw [HR.out,hz1,hz2];rfl,V.drop⟩
theorem Ht (x s):(Al l x s).pts=x.pts:=by unfold Al Ci;split<;>rfl
theorem By (x s):(Al l x s).nds=x.nds:=by unfold Al Ci;split<;>rfl
theorem Bt (x s):(Al l x s).ins=x.ins:=by unfold Al Ci;split<;>rfl
theorem Oc (x s):(Al l x s).k=if AS l x s then x.k+1 else -1:=by unfold Al Ci;split<;>rfl
theorem fM {S M} (w) (V:St S M w) (sl si sn x) (hl:RSl S (Ar sl) l) (hm:l.length≤1500) (s):
  Ac prog 99 [CI sl x.k si sn x.pts,.string ⟨s.toArray⟩] w fun v w'=>v=CI sl (Al l x s).k si sn x.pts∧St S M w':=by
 unfold Ac;have cI:=fun {M} w (V:St S M w)=>Cr w V sl si sn x hl hm s
 have G:=Oc (l:=l) x s;have L:=Fl (l:=l) (x:=x) (s:=s);obtain ⟨a,n,c⟩:=sl;obtain ⟨ai,ni,ci⟩:=si;obtain ⟨an,nn,cn⟩:=sn;rw [G];clear G;generalize AS l x s=z at *
 cases z with
 | false =>
  clear L;apply j3 ()
 | true =>
  have L:=L rfl;apply j3 ()
theorem TO {S M} (w) (V:St S M w) (sl si sn x) (hl:RSl S (Ar sl) l) (hm:l.length≤1500):
  Ac prog 134 [CI sl x.k si sn x.pts] w fun v w'=>v=.bool (E6 l x)∧St S M w':=by
 unfold Ac;obtain ⟨a,n,c⟩:=sl;obtain ⟨ai,ni,ci⟩:=si;obtain ⟨an,nn,cn⟩:=sn;simp only [Ar] at hl;by_cases h1:x.k < 0
 ·have HR:=Lib.hid (Sd (l:=l) (.inl h1));generalize x.k=k at *;go_enter func134,ntmps134;apply jX ()
 ·by_cases h2:(l.length:Int)≤x.k
  ·have HR:=Lib.hid (Sd (l:=l) (.inr h2));generalize x.k=k at *;go_enter func134,ntmps134;apply jY ()
  ·obtain ⟨k,hk⟩:∃ k:Nat,x.k=k:=⟨x.k.toNat,by omega⟩
   have hlt:k < l.length:=by omega
   have HR:=Lib.hid (Se hk hlt);rw [hk];clear h1 h2 hk;obtain ⟨z1,hz1⟩:∃ z,(l[k].1 == 2)=z:=⟨_,rfl⟩
   go_enter func134,ntmps134;repeat' (first|apply sK ()|apply sG ()|(apply O ();go_step)|apply sX ()|(apply sN ();intro hI)|(apply sI ();intro v L)|(apply sB ();clear V;intro bx w V)|fail)
   go_ret;exact ⟨_,rfl,by rw [HR.out,hz1];rfl,V.drop⟩
theorem R3 {S:Ad}:∀ (bs:List (List UInt8)),(∀ b∈bs,b.length≤1000)→RL S (bs.map fun b=>Value.string ⟨b.toArray⟩) (bs.map fun b=>(⟨b⟩:Cv))
 | [],_=>RL.nil
 | b::r,h=>by
  have h1:RL S [Value.string ⟨b.toArray⟩] [(⟨b⟩:Cv)]:=RL.one_mk ⟨rfl,by have:=h b (.head _);unfold maxLen;simp only;omega⟩;exact h1.append (R3 r fun b hb=>h b (.tail _ hb))
theorem Y3 (s) (K:List (List UInt8)) {i} (h):decide (s∈K.take (i+1))=(decide (s∈K.take i) || decide (K[i]=s)):=by
 rw [List.take_succ_eq_append_getElem h];by_cases h1:s∈K.take i
 ·simp only [List.mem_append,h1,true_or,decide_true,Bool.true_or]
 ·by_cases h2:K[i]=s
  ·simp only [List.mem_append,List.mem_singleton,h1,h2,false_or,decide_true,decide_false,Bool.or_true]
  ·have h3:¬ s=K[i]:=fun e=>h2 e.symm
   simp only [List.mem_append,List.mem_singleton,h1,h2,h3,false_or,decide_false,Bool.or_false]
theorem Wi {S M} (w) (V:St S M w) (s):
  Ac prog 133 [.string ⟨s.toArray⟩] w fun v w'=>v=.bool (decide (s∈FU))∧St S M w':=by
 unfold Ac;obtain ⟨R,hR⟩:∃ R,decide (s∈FU)=R:=⟨_,rfl⟩
 rw [hR];have HR:=Lib.hid hR;clear hR;go_enter func133,ntmps133;repeat' ((apply ZZ 1);first|(apply O ();go_step)|fail)
 refine wp_region_lit ?_;refine Ay (vs:=FU.map fun b=>Value.string ⟨b.toArray⟩) V Y Y rfl rfl (by simp [FU,Value.cells]) rfl (by omega) (by omega) ?_;clear V;intro x w V;obtain ⟨S1,hS1,hst2,hx⟩:=St.freeze (α:=Cv) V (R3 FU (by decide)) rfl;clear V;have V:=hst2;clear hst2;have hlen:12≤(FU.map fun b=>(⟨b⟩:Cv)).length∧(FU.map fun b=>(⟨b⟩:Cv)).length≤12:=by decide
 have hmem:∀ i,(h:i < (FU.map fun b=>(⟨b⟩:Cv)).length)→Hid (decide (s∈FU.take (i+1))=(decide (s∈FU.take i) || decide (((FU.map fun b=>(⟨b⟩:Cv))[i]).b=s))):=fun i h=>Lib.hid (by rw [Y3 s FU (by simpa using h),List.getElem_map])
 have hall:Hid (FU.take (FU.map fun b=>(⟨b⟩:Cv)).length=FU):=Lib.hid (by decide);generalize (FU.map fun b=>(⟨b⟩:Cv))=K at *;generalize FU=W at *;obtain ⟨ax,nx,cx,rfl⟩:=BQ hx;apply nW ();repeat' (first|(apply O ();go_step)|fail)
 go_loopw [4] (fun v wr=>∃ (i:Nat),i≤K.length∧v=.int .i64 i∧Hid (decide (s∈W.take i)=false)∧St S1 M wr) (fun v _=>K.length - (intOf v).toNat)
 case atStart=>exact ⟨0,Nat.zero_le _,rfl,Lib.hid rfl,V⟩
 case round =>
  clear V;obtain ⟨i,hi,rfl,hn,V⟩:=hrel;by_cases hlt:i < K.length
  ·obtain ⟨z,hz⟩:∃ z,decide (K[i].b=s)=z:=⟨_,rfl⟩
   have hnx:=hmem i hlt
   cases z with
   | true =>
    repeat' (first|(apply tB ();refine Ag V (AA rfl rfl Y hz) ?_<;>apply nW ())|(apply O ();go_step)|(apply tL ();refine An V (AO X Ak Y) ?_;rintro v ⟨rfl,hs⟩<;>apply nW ())|apply sX ()|(apply sI ();intro v L)|fail)
    go_ret;refine ⟨_,rfl,?_,St.weaken hS1 V⟩;have h1:=hnx.out;rw [hn.out,hz] at h1;have h2:s∈W:=List.mem_of_mem_take (of_decide_eq_true h1);rw [← HR.out,decide_eq_true h2];rfl
   | false =>
    repeat' (first|(apply tB ();refine Ag V (AA rfl rfl Y hz) ?_<;>apply nW ())|(apply O ();go_step)|(apply tL ();refine An V (AO X Ak Y) ?_;rintro v ⟨rfl,hs⟩<;>apply nW ())|apply sX ()|(apply sI ();intro v L)|fail)
    go_roundw
    case rel=>exact ⟨i+1,by omega,by go_num,Lib.hid (by rw [hnx.out,hn.out,hz];rfl),V⟩
    case measure=>simp [intOf];omega
  ·repeat' (first|(apply O ();go_step)|apply sX ()|fail)
   go_ret;refine ⟨_,rfl,?_,St.weaken hS1 V⟩;have h1:=hn.out;rw [show i=K.length by omega,hall.out] at h1;rw [← HR.out,h1];rfl
end
end Go.Proofs.YtmmbidoldegemaaGreatDoor
