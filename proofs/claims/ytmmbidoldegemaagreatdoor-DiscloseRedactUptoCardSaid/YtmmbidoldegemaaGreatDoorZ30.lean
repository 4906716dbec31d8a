/- Part 31 of a proof; no conditions. -/
import Derived.Test.YtmmbidoldegemaaGreatDoorZ08
import Derived.Test.YtmmbidoldegemaaGreatDoorZ13
set_option linter.all false
set_option maxRecDepth 8000
set_option maxHeartbeats 8000000
namespace Go.Proofs.YtmmbidoldegemaaGreatDoor
open Go.RowKit Go.Sl
abbrev Q7:=Int×Int×Int×Unit
abbrev B9:=List Q7×Int×Int×Unit
abbrev MO:=List Int×List Int×Int×Int×Unit
structure VS where
 pc:Int
 vars:List Int
 stack:List Int
 br:Nat
 pts:List Int
 notes:List Int
 fin:Int
 steps:Nat
 done:Bool
inductive VR where
 | ok (s:VS)
 | err (e:Nat)
def VR.bind (r:VR) (k:VS→VR):VR:=match r with|.ok s=>k s|.err e=>.err e
def EZ (n:Int):Int:=n % 65536
def En (b:Bool):Int:=if b then 1 else 0
def Cc (s:VS) (v:Int):VR:=if s.stack.length < 400 then .ok { s with stack:=s.stack++[v] } else .err 2
def Bw (s:VS):Int:=s.stack.getD (s.stack.length - 1) 0
abbrev BJ (s:VS):VS:={ s with stack:=s.stack.take (s.stack.length - 1) }
def FW (s:VS) (a:Int):Bool:=decide (0≤a∧a < s.vars.length)
def IX (op a b:Int):Int :=
 if op=4 then EZ (a+b) else if op=5 then EZ (a - b) else if op=6 then EZ (a * b) else if op=7 then En (decide (a < b))
 else if op=8 then En (decide (a=b)) else if op=9 then En (decide (a≠0) && decide (b≠0)) else En (decide (a≠0) || decide (b≠0))
def GH (p side:Int):Int:=((p.toNat ||| side.toNat:Nat):Int)
def C6 (l:List Int) (a v:Int):List Int:=l.set a.toNat v
def FJ (v:Int):Int:=max (v - 1) 0
def Gq (gl:List Int) (points:Int) (i:Q7) (s:VS):VR :=
 if s.stack.length=0 then .err 21 else
 if 0≤i.2.2.1∧i.2.2.1 < points then
  let s':={ BJ s with br:=s.br+1 }
  if (decide (Bw s≠0)) ^^ gl.contains (s.br:Int) then .ok { s' with pts:=C6 s.pts i.2.2.1 (GH (s.pts.getD i.2.2.1.toNat 0) 1) }
  else .ok { s' with pts:=C6 s.pts i.2.2.1 (GH (s.pts.getD i.2.2.1.toNat 0) 2),pc:=i.2.1 }
 else .err 21
def CC (gl:List Int) (points:Int) (i:Q7) (s:VS):VR :=
 if i.1=1 then Cc s (EZ i.2.1)
 else if i.1=2 then if FW s i.2.1 then Cc s (s.vars.getD i.2.1.toNat 0) else .err 21
 else if i.1=3 then if s.stack.length=0 then .err 21 else if FW s i.2.1 then .ok { BJ s with vars:=C6 s.vars i.2.1 (Bw s) } else .err 21
 else if i.1≤10 then if s.stack.length < 2 then .err 21 else Cc (BJ (BJ s)) (IX i.1 (Bw (BJ s)) (Bw s))
 else if i.1=11 then if s.stack.length=0 then .err 21 else Cc (BJ s) (En (decide (Bw s=0)))
 else if i.1=12 then Gq gl points i s
 else if i.1=13 then .ok { s with pc:=i.2.1 }
 else if i.1=14 then if s.stack.length=0 then .err 21 else .ok { BJ s with notes:=s.notes++[Bw s] }
 else if i.1=15 then .ok { s with fin:=i.2.1,done:=true }
 else if i.1=16 then .ok { s with done:=true }
 else if FW s i.2.1 then
  let v:=FJ (s.vars.getD i.2.1.toNat 0)
  .ok { s with vars:=C6 s.vars i.2.1 v,pc:=if 0 < v then i.2.2.1 else s.pc }
 else .err 21
def GV (c:B9) (pc:Int):Q7:=c.1.getD pc.toNat (0,0,0,())
abbrev BO (s:VS):VS:={ s with pc:=s.pc+1,steps:=s.steps+1 }
def Fp (c:B9) (gl:List Int) (s:VS):VR :=
 if s.steps < 3000 then
  if 0≤s.pc∧s.pc < c.1.length then
   if 1≤(GV c s.pc).1∧(GV c s.pc).1 < 18 then CC gl c.2.2.1 (GV c s.pc) (BO s) else .err 21
  else .err 21
 else .err 20
def F7 (c:B9) (gl:List Int):Nat→VS→VR
 | 0,s=>.ok s
 | f+1,s=>if s.done then .ok s else (Fp c gl s).bind (F7 c gl f)
def C3 (c:B9) (inputs:List Int):VS:=⟨0,inputs++List.replicate (c.2.1.toNat - inputs.length) 0,[],0,List.replicate c.2.2.1.toNat 0,[],0,0,false⟩
def Em (c:B9) (inputs:List Int):Bool :=
 decide (0≤c.2.2.1) && decide (c.2.2.1≤8) && decide ((inputs.length:Int)≤c.2.1) && decide (c.2.1≤400) && inputs.all fun n=>decide (0≤n∧n < 65536)
def P5 (s:VS):MO:=(s.pts,s.notes,s.fin,(s.steps:Int),())
def P8:MO:=([],[],0,0,())
def H3 (c:B9) (inputs gl:List Int):MO×Nat :=
 if Em c inputs then match F7 c gl 3001 (C3 c inputs) with|.ok s=>(P5 s,0)|.err e=>(P8,e)
 else (P8,1)
theorem Jl {gl points i s} {m:VR→Prop} (h1:i.1=1→m (Cc s (EZ i.2.1))) (h2:i.1=2→m (if FW s i.2.1 then Cc s (s.vars.getD i.2.1.toNat 0) else .err 21)) (h3:i.1=3→m (if s.stack.length=0 then .err 21 else if FW s i.2.1 then .ok { BJ s with vars:=C6 s.vars i.2.1 (Bw s) } else .err 21)) (h4:i.1≠1→i.1≠2→i.1≠3→i.1≤10→m (if s.stack.length < 2 then .err 21 else Cc (BJ (BJ s)) (IX i.1 (Bw (BJ s)) (Bw s)))) (h11:i.1=11→m (if s.stack.length=0 then .err 21 else Cc (BJ s) (En (decide (Bw s=0))))) (h12:i.1=12→m (Gq gl points i s)) (h13:i.1=13→m (.ok { s with pc:=i.2.1 })) (h14:i.1=14→m (if s.stack.length=0 then .err 21 else .ok { BJ s with notes:=s.notes++[Bw s] })) (h15:i.1=15→m (.ok { s with fin:=i.2.1,done:=true })) (h16:i.1=16→m (.ok { s with done:=true })) (h17:16 < i.1→m (if FW s i.2.1 then .ok { s with vars:=C6 s.vars i.2.1 (FJ (s.vars.getD i.2.1.toNat 0)),pc:=if 0 < FJ (s.vars.getD i.2.1.toNat 0) then i.2.2.1 else s.pc } else .err 21)):
  m (CC gl points i s):=by
 unfold CC;by_cases e1:i.1=1
 ·rw [if_pos e1];exact h1 e1
 rw [if_neg e1];by_cases e2:i.1=2
 ·rw [if_pos e2];exact h2 e2
 rw [if_neg e2];by_cases e3:i.1=3
 ·rw [if_pos e3];exact h3 e3
 rw [if_neg e3];by_cases e4:i.1≤10
 ·rw [if_pos e4];exact h4 e1 e2 e3 e4
 rw [if_neg e4];by_cases e11:i.1=11
 ·rw [if_pos e11];exact h11 e11
 rw [if_neg e11];by_cases e12:i.1=12
 ·rw [if_pos e12];exact h12 e12
 rw [if_neg e12];by_cases e13:i.1=13
 ·rw [if_pos e13];exact h13 e13
 rw [if_neg e13];by_cases e14:i.1=14
 ·rw [if_pos e14];exact h14 e14
 rw [if_neg e14];by_cases e15:i.1=15
 ·rw [if_pos e15];exact h15 e15
 rw [if_neg e15];by_cases e16:i.1=16
 ·rw [if_pos e16];exact h16 e16
 rw [if_neg e16];exact h17 (by omega)
def DA (n:Int):Prop:=0≤n∧n≤65535
structure Br (c:B9) (s:VS):Prop where
 vlen:s.vars.length=c.2.1.toNat
 vars:∀ v∈s.vars,DA v
 stack:∀ v∈s.stack,DA v
 slen:s.stack.length≤400
 br:s.br≤s.steps
 plen:s.pts.length=c.2.2.1.toNat
 pts:∀ v∈s.pts,0≤v∧v≤3
 notes:∀ v∈s.notes,DA v
 nlen:s.notes.length+(if s.done then 1 else 0)≤s.steps
 steps:s.steps≤3000
def NQ (p:VS→Prop):VR→Prop
 | .ok s=>p s
 | .err e=>e=2∨e=20∨e=21
theorem J2 (n):DA (EZ n):=by unfold DA EZ;omega
theorem KK (b):DA (En b):=by unfold DA En;cases b<;>simp
theorem getD_in {l:List Int} (h:∀ v∈l,DA v) (k):DA (l.getD k 0):=by
 apply jz ()
theorem SM (op a b):DA (IX op a b):=by
 unfold IX
 repeat' split
 all_goals first|exact J2 _|exact KK _
theorem Y4 {v} (h:DA v):DA (FJ v):=by unfold DA FJ at *;omega
theorem N1 {p:Int→Prop} {l:List Int} (h:∀ v∈l,p v) {k x} (hx:p x):∀ v∈l.set k x,p v:=fun v hv=>by
 rcases List.mem_or_eq_of_mem_set hv with hv|rfl
 ·exact h v hv
 ·exact hx
theorem GY {p:Int→Prop} {l} (h:∀ v∈l,p v) {x} (hx:p x):∀ v∈l++[x],p v:=fun v hv=>by
 rcases List.mem_append.1 hv with hv|hv
 ·exact h v hv
 ·rw [List.mem_singleton.1 hv];exact hx
theorem Dk {p:Int→Prop} {l:List Int} (h:∀ v∈l,p v) {k}:∀ v∈l.take k,p v:=fun v hv=>h v (List.mem_of_mem_take hv)
theorem mY:∀ a < 4,∀ b < 4,a ||| b < 4:=by decide
theorem K1 {p side} (h:0≤p∧p≤3) (k:0≤side∧side≤3):0≤GH p side∧GH p side≤3:=by
 unfold GH;have:=mY p.toNat (by omega) side.toNat (by omega);omega
theorem dI {l:List Int} (h:∀ v∈l,0≤v∧v≤3) (k):0≤l.getD k 0∧l.getD k 0≤3:=by
 apply jz ()
theorem MV {c inputs} (h:Em c inputs=true):Br c (C3 c inputs):=by
 unfold Em at h;simp only [Bool.and_eq_true,decide_eq_true_eq,List.all_eq_true] at h;obtain ⟨⟨⟨⟨h1,h2⟩,h3⟩,h4⟩,h5⟩:=h;refine ⟨?_,?_,by simp [C3],by simp [C3],by simp [C3],by simp [C3],?_,by simp [C3],by simp [C3],by simp [C3]⟩
 ·simp [C3];omega
 ·intro v hv;rcases List.mem_append.1 hv with hv|hv
  ·have:=h5 v hv;unfold DA;omega
  ·rw [(List.mem_replicate.1 hv).2];exact ⟨Int.le_refl _,by decide⟩
 ·intro v hv;rw [(List.mem_replicate.1 hv).2];exact ⟨Int.le_refl _,by decide⟩
theorem Ja {c s} (g:Br c s) {v} (hv:DA v):NQ (Br c) (Cc s v):=by
 unfold Cc;split
 ·exact ⟨g.vlen,g.vars,GY g.stack hv,by simp;omega,g.br,g.plen,g.pts,g.notes,g.nlen,g.steps⟩
 ·exact .inl rfl
theorem Kj {c s} (g:Br c s):Br c (BJ s) :=
 ⟨g.vlen,g.vars,Dk g.stack,by have:=g.slen;simp [BJ];omega,g.br,g.plen,g.pts,g.notes,g.nlen,g.steps⟩
theorem FO {c s} (g:Br c s):DA (Bw s):=getD_in g.stack _
theorem WB {c gl i s} (g:Br c s) (hd:s.done=false) (hb:s.br < s.steps) (hn:s.notes.length < s.steps):NQ (Br c) (CC gl c.2.2.1 i s):=by
 have h21:NQ (Br c) (.err 21):=.inr (.inr rfl);have hsl:=g.slen;refine Jl ?_ ?_ ?_ ?_ ?_ ?_ ?_ ?_ ?_ ?_ ?_
 ·exact fun _=>Ja g (J2 _)
 ·intro _;by_cases h:FW s i.2.1=true
  ·rw [if_pos h];exact Ja g (getD_in g.vars _)
  ·rw [if_neg h];exact h21
 ·intro _;by_cases h0:s.stack.length=0
  ·rw [if_pos h0];exact h21
  rw [if_neg h0];by_cases h:FW s i.2.1=true
  ·rw [if_pos h];exact ⟨by simp [C6,BJ,g.vlen],N1 g.vars (FO g),Dk g.stack,by simp [BJ];omega,g.br,g.plen,g.pts,g.notes,g.nlen,g.steps⟩
  ·rw [if_neg h];exact h21
 ·intro _ _ _ _;by_cases h0:s.stack.length < 2
  ·rw [if_pos h0];exact h21
  ·rw [if_neg h0];exact Ja (Kj (Kj g)) (SM _ _ _)
 ·intro _;by_cases h0:s.stack.length=0
  ·rw [if_pos h0];exact h21
  ·rw [if_neg h0];exact Ja (Kj g) (KK _)
 ·intro _;unfold Gq;by_cases h0:s.stack.length=0
  ·rw [if_pos h0];exact h21
  rw [if_neg h0];by_cases h1:0≤i.2.2.1∧i.2.2.1 < c.2.2.1
  ·rw [if_pos h1];have L:∀ side:Int,0≤side∧side≤3→∀ v∈C6 s.pts i.2.2.1 (GH (s.pts.getD i.2.2.1.toNat 0) side),0≤v∧v≤3:=fun side hs=>N1 g.pts (K1 (dI g.pts _) hs)
   simp only;split
   ·exact ⟨g.vlen,g.vars,Dk g.stack,by simp [BJ];omega,hb,by simp [C6,g.plen],L 1 ⟨by decide,by decide⟩,g.notes,g.nlen,g.steps⟩
   ·exact ⟨g.vlen,g.vars,Dk g.stack,by simp [BJ];omega,hb,by simp [C6,g.plen],L 2 ⟨by decide,by decide⟩,g.notes,g.nlen,g.steps⟩
  ·rw [if_neg h1];exact h21
 ·exact fun _=>⟨g.vlen,g.vars,g.stack,g.slen,g.br,g.plen,g.pts,g.notes,g.nlen,g.steps⟩
 ·intro _;by_cases h0:s.stack.length=0
  ·rw [if_pos h0];exact h21
  ·rw [if_neg h0];exact ⟨g.vlen,g.vars,Dk g.stack,by simp [BJ];omega,g.br,g.plen,g.pts,GY g.notes (FO g),by simp [BJ,hd];omega,g.steps⟩
 ·exact fun _=>⟨g.vlen,g.vars,g.stack,g.slen,g.br,g.plen,g.pts,g.notes,by simp;omega,g.steps⟩
 ·exact fun _=>⟨g.vlen,g.vars,g.stack,g.slen,g.br,g.plen,g.pts,g.notes,by simp;omega,g.steps⟩
 ·intro _;by_cases h:FW s i.2.1=true
  ·rw [if_pos h];exact ⟨by simp [C6,g.vlen],N1 g.vars (Y4 (getD_in g.vars _)),g.stack,g.slen,g.br,g.plen,g.pts,g.notes,g.nlen,g.steps⟩
  ·rw [if_neg h];exact h21
def Xm (n:Nat):VR→Prop
 | .ok t=>t.steps=n
 | .err _=>True
theorem Jv {s v}:Xm s.steps (Cc s v):=by
 unfold Cc;split<;>first|rfl|trivial
theorem RB {gl pts i s}:Xm s.steps (CC gl pts i s):=by
 refine Jl ?_ ?_ ?_ ?_ ?_ ?_ ?_ ?_ ?_ ?_ ?_;all_goals (intros;first|rfl|exact Jv|(split<;>first|trivial|rfl|exact Jv|exact (Jv (s:=BJ _))|(split<;>first|trivial|rfl))|(unfold Gq;repeat' (first|trivial|rfl|split)))
theorem Up {gl pts i s}:∀ t,CC gl pts i s=.ok t→t.steps=s.steps:=by
 intro t h;have:=RB (gl:=gl) (pts:=pts) (i:=i) (s:=s);rw [h] at this;exact this
theorem OI {c gl s} (g:Br c s) (hd:s.done=false):NQ (fun t=>Br c t∧t.steps=s.steps+1) (Fp c gl s):=by
 unfold Fp;split
 ·split
  ·split
   ·have g':Br c (BO s):=⟨g.vlen,g.vars,g.stack,g.slen,by have:=g.br;show s.br≤s.steps+1;omega,g.plen,g.pts,g.notes,Nat.le_succ_of_le g.nlen,by show s.steps+1≤3000;omega⟩
    have hn:=g.nlen;rw [hd] at hn;have h:=WB (gl:=gl) (i:=GV c s.pc) g' hd (by have:=g.br;show s.br < s.steps+1;omega) (by show s.notes.length < s.steps+1;simp at hn;omega);have hs:=Up (gl:=gl) (pts:=c.2.2.1) (i:=GV c s.pc) (s:=BO s)
    cases e:CC gl c.2.2.1 (GV c s.pc) (BO s) with
    | ok t=>rw [e] at h hs;exact ⟨h,hs t rfl⟩
    | err k=>rw [e] at h;exact h
   ·exact .inr (.inr rfl)
  ·exact .inr (.inr rfl)
 ·exact .inr (.inl rfl)
theorem PQ {c:B9} {gl:List Int}:∀ (f:Nat) (s:VS),Br c s→3001≤f+s.steps→NQ (fun t=>Br c t∧t.done=true) (F7 c gl f s)
 | 0,s,g,h=>by have:=g.steps;omega
 | f+1,s,g,h=>by
  rw [F7]
  cases hd:s.done with
  | true=>exact ⟨g,hd⟩
  | false =>
   have hs:=OI (gl:=gl) g hd;rw [if_neg (by simp)]
   cases e:Fp c gl s with
   | ok t=>rw [e] at hs;exact PQ f t hs.1 (by have:=hs.2;omega)
   | err k=>rw [e] at hs;exact hs
structure Es (s t:VS):Prop where
 pc:t.pc=s.pc
 vars:∃ z,t.vars=s.vars++z
 stack:t.stack=s.stack
 br:t.br=s.br
 pts:t.pts=s.pts
 notes:t.notes=s.notes
 fin:t.fin=s.fin
 steps:t.steps=s.steps
 done:t.done=s.done
theorem Es.inn {s t} (h:Es s t) {a} (k:FW s a=true):FW t a=true∧a.toNat < s.vars.length∧t.vars.getD a.toNat 0=s.vars.getD a.toNat 0∧∀ x,∃ z,C6 t.vars a x=C6 s.vars a x++z:=by
 obtain ⟨z,hz⟩:=h.vars;unfold FW at *;simp only [decide_eq_true_eq] at *;have hlt:a.toNat < s.vars.length:=by omega
 refine ⟨by rw [hz,List.length_append];omega,hlt,?_,fun x=>⟨z,?_⟩⟩
 ·rw [List.getD_eq_getElem?_getD,List.getD_eq_getElem?_getD,hz,List.getElem?_append_left hlt]
 ·unfold C6;rw [hz,List.set_append_left _ _ hlt]
theorem Es.top {s t} (h:Es s t):Bw t=Bw s:=by unfold Bw;rw [h.stack]
theorem Es.pop {s t} (h:Es s t):Es (BJ s) (BJ t):=⟨h.pc,h.vars,by simp only [BJ,h.stack],h.br,h.pts,h.notes,h.fin,h.steps,h.done⟩
theorem Es.push {s t u} (h:Es s t) {v} (k:Cc s v=.ok u):∃ u',Cc t v=.ok u'∧Es u u':=by
 unfold Cc at *;rw [h.stack];split at k
 ·cases k;rename_i hh;rw [if_pos hh];exact ⟨_,rfl,h.pc,h.vars,by simp only [h.stack],h.br,h.pts,h.notes,h.fin,h.steps,h.done⟩
 ·cases k
def DT (r r':VR):Prop:=∀ u,r=.ok u→∃ u',r'=.ok u'∧Es u u'
theorem DT.err {e r}:DT (.err e) r:=fun _ h=>by cases h
theorem DT.ok {u u'} (h:Es u u'):DT (.ok u) (.ok u'):=fun _ e=>by cases e;exact ⟨_,rfl,h⟩
theorem Es.pushR {s t} (h:Es s t) {v}:DT (Cc s v) (Cc t v):=fun _ k=>h.push k
theorem Sz {gl pts i s} (e:i.1=1):CC gl pts i s=(Cc s (EZ i.2.1)):=by
 obtain ⟨op,a,b,u⟩:=i;obtain rfl:op=1:=e;rfl
theorem Sy {gl pts i s} (e:i.1=2):CC gl pts i s=(if FW s i.2.1 then Cc s (s.vars.getD i.2.1.toNat 0) else .err 21):=by
 obtain ⟨op,a,b,u⟩:=i;obtain rfl:op=2:=e;rfl
theorem Sx {gl pts i s} (e:i.1=3):CC gl pts i s=(if s.stack.length=0 then .err 21 else if FW s i.2.1 then .ok { BJ s with vars:=C6 s.vars i.2.1 (Bw s) } else .err 21):=by
 obtain ⟨op,a,b,u⟩:=i;obtain rfl:op=3:=e;rfl
theorem QN {gl pts i s} (e:i.1=11):CC gl pts i s=(if s.stack.length=0 then .err 21 else Cc (BJ s) (En (decide (Bw s=0)))):=by
 obtain ⟨op,a,b,u⟩:=i;obtain rfl:op=11:=e;rfl
theorem QM {gl pts i s} (e:i.1=12):CC gl pts i s=(Gq gl pts i s):=by
 obtain ⟨op,a,b,u⟩:=i;obtain rfl:op=12:=e;rfl
theorem QL {gl pts i s} (e:i.1=13):CC gl pts i s=(.ok { s with pc:=i.2.1 }):=by
 obtain ⟨op,a,b,u⟩:=i;obtain rfl:op=13:=e;rfl
theorem QK {gl pts i s} (e:i.1=14):CC gl pts i s=(if s.stack.length=0 then .err 21 else .ok { BJ s with notes:=s.notes++[Bw s] }):=by
 obtain ⟨op,a,b,u⟩:=i;obtain rfl:op=14:=e;rfl
theorem QJ {gl pts i s} (e:i.1=15):CC gl pts i s=(.ok { s with fin:=i.2.1,done:=true }):=by
 obtain ⟨op,a,b,u⟩:=i;obtain rfl:op=15:=e;rfl
theorem QI {gl pts i s} (e:i.1=16):CC gl pts i s=(.ok { s with done:=true }):=by
 obtain ⟨op,a,b,u⟩:=i;obtain rfl:op=16:=e;rfl
theorem Sw {gl pts i s} (e1:i.1≠1) (e2:i.1≠2) (e3:i.1≠3) (e:i.1≤10):CC gl pts i s=(if s.stack.length < 2 then .err 21 else Cc (BJ (BJ s)) (IX i.1 (Bw (BJ s)) (Bw s))):=by
 unfold CC;rw [if_neg e1,if_neg e2,if_neg e3,if_pos e]
theorem QH {gl pts i s} (e:16 < i.1):CC gl pts i s=(if FW s i.2.1 then .ok { s with vars:=C6 s.vars i.2.1 (FJ (s.vars.getD i.2.1.toNat 0)),pc:=if 0 < FJ (s.vars.getD i.2.1.toNat 0) then i.2.2.1 else s.pc } else .err 21):=by
 have a1:i.1≠1:=by omega
 have a2:i.1≠2:=by omega
 have a3:i.1≠3:=by omega
 have a4:¬ i.1≤10:=by omega
 have a11:i.1≠11:=by omega
 have a12:i.1≠12:=by omega
 have a13:i.1≠13:=by omega
 have a14:i.1≠14:=by omega
 have a15:i.1≠15:=by omega
 have a16:i.1≠16:=by omega
 unfold CC;rw [if_neg a1,if_neg a2,if_neg a3,if_neg a4,if_neg a11,if_neg a12,if_neg a13,if_neg a14,if_neg a15,if_neg a16]
theorem Es.execR {gl pts i s t} (h:Es s t):DT (CC gl pts i s) (CC gl pts i t):=by
 refine Jl (m:=fun r=>DT r (CC gl pts i t)) ?_ ?_ ?_ ?_ ?_ ?_ ?_ ?_ ?_ ?_ ?_
 ·intro e;rw [Sz e];exact h.pushR
 ·intro e;rw [Sy e];by_cases hi:FW s i.2.1=true
  ·obtain ⟨a,_,b,_⟩:=h.inn hi;rw [if_pos hi,if_pos a,b];exact h.pushR
  ·rw [if_neg hi];exact DT.err
 ·intro e;rw [Sx e];by_cases h0:s.stack.length=0
  ·rw [if_pos h0];exact DT.err
  rw [if_neg h0,if_neg (show ¬ t.stack.length=0 by rw [h.stack];exact h0)];by_cases hi:FW s i.2.1=true
  ·obtain ⟨a,_,_,d⟩:=h.inn hi;rw [if_pos hi,if_pos a];exact DT.ok ⟨h.pc,by rw [h.top];exact d _,by simp only [BJ,h.stack],h.br,h.pts,h.notes,h.fin,h.steps,h.done⟩
  ·rw [if_neg hi];exact DT.err
 ·intro e1 e2 e3 e;rw [Sw e1 e2 e3 e];by_cases h0:s.stack.length < 2
  ·rw [if_pos h0];exact DT.err
  ·rw [if_neg h0,if_neg (show ¬ t.stack.length < 2 by rw [h.stack];exact h0),h.top,h.pop.top];exact h.pop.pop.pushR
 ·intro e;rw [QN e];by_cases h0:s.stack.length=0
  ·rw [if_pos h0];exact DT.err
  ·rw [if_neg h0,if_neg (show ¬ t.stack.length=0 by rw [h.stack];exact h0),h.top];exact h.pop.pushR
 ·intro e;rw [QM e];unfold Gq;rw [h.stack,h.top,h.br,h.pts];by_cases h0:s.stack.length=0
  ·rw [if_pos h0];exact DT.err
  rw [if_neg h0,if_neg h0];by_cases h1:0≤i.2.2.1∧i.2.2.1 < pts
  ·rw [if_pos h1,if_pos h1];simp only;split
   ·exact DT.ok ⟨h.pc,h.vars,by simp only [BJ,h.stack],rfl,rfl,h.notes,h.fin,h.steps,h.done⟩
   ·exact DT.ok ⟨rfl,h.vars,by simp only [BJ,h.stack],rfl,rfl,h.notes,h.fin,h.steps,h.done⟩
  ·rw [if_neg h1];exact DT.err
 ·intro e;rw [QL e];exact DT.ok ⟨rfl,h.vars,h.stack,h.br,h.pts,h.notes,h.fin,h.steps,h.done⟩
 ·intro e;rw [QK e];by_cases h0:s.stack.length=0
  ·rw [if_pos h0];exact DT.err
  ·rw [if_neg h0,if_neg (show ¬ t.stack.length=0 by rw [h.stack];exact h0)];exact DT.ok ⟨h.pc,h.vars,by simp only [BJ,h.stack],h.br,h.pts,by simp only [h.notes,h.top],h.fin,h.steps,h.done⟩
 ·intro e;rw [QJ e];exact DT.ok ⟨h.pc,h.vars,h.stack,h.br,h.pts,h.notes,rfl,h.steps,rfl⟩
 ·intro e;rw [QI e];exact DT.ok ⟨h.pc,h.vars,h.stack,h.br,h.pts,h.notes,h.fin,h.steps,rfl⟩
 ·intro e;rw [QH e];by_cases hi:FW s i.2.1=true
  ·obtain ⟨a,_,b,d⟩:=h.inn hi;rw [if_pos hi,if_pos a];exact DT.ok ⟨by simp only [b,h.pc],by rw [b];exact d _,h.stack,h.br,h.pts,h.notes,h.fin,h.steps,h.done⟩
  ·rw [if_neg hi];exact DT.err
theorem Es.exec {gl pts i s t u} (h:Es s t) (k:CC gl pts i s=.ok u):∃ u',CC gl pts i t=.ok u'∧Es u u':=h.execR u k
structure hH (c d:B9):Prop where
 ins:∃ z,d.1=c.1++z
 pts:d.2.2.1=c.2.2.1
theorem Es.step {c d gl s t u} (m:hH c d) (h:Es s t) (k:Fp c gl s=.ok u):∃ u',Fp d gl t=.ok u'∧Es u u':=by
 obtain ⟨z,hz⟩:=m.ins;unfold Fp at *;rw [h.steps,h.pc,m.pts];split at k
 ·rename_i h1;rw [if_pos h1];split at k
  ·rename_i h2
   have hi:GV d s.pc=GV c s.pc:=by
    unfold GV;rw [List.getD_eq_getElem?_getD,List.getD_eq_getElem?_getD,hz,List.getElem?_append_left (by omega)]
   rw [if_pos (by rw [hz,List.length_append];omega),hi];split at k
   ·rename_i h3;rw [if_pos h3];refine Es.exec (s:=BO s) ⟨?_,h.vars,h.stack,h.br,h.pts,h.notes,h.fin,?_,h.done⟩ k
    ·simp only [BO,h.pc]
    ·simp only [BO,h.steps]
   ·cases k
  ·cases k
 ·cases k
theorem Es.run {c d:B9} {gl:List Int} (m:hH c d):∀ (f:Nat) (s t u:VS),Es s t→F7 c gl f s=.ok u→∃ u',F7 d gl f t=.ok u'∧Es u u'
 | 0,s,t,u,h,k=>by cases k;exact ⟨t,rfl,h⟩
 | f+1,s,t,u,h,k=>by
  rw [F7] at k ⊢;rw [h.done]
  cases hd:s.done with
  | true=>rw [hd] at k;cases k;exact ⟨t,rfl,h⟩
  | false =>
   rw [hd,if_neg (by simp)] at k;rw [if_neg (by simp)]
   cases e:Fp c gl s with
   | ok s' =>
    rw [e] at k;obtain ⟨t',e',h'⟩:=h.step m e;rw [e'];exact Es.run m f s' t' u h' k
   | err n=>rw [e] at k;cases k
theorem Es.out {s t} (h:Es s t):P5 t=P5 s:=by unfold P5;rw [h.pts,h.notes,h.fin,h.steps]
abbrev Rn:=Cv×List UInt8×Unit
def Qi (d:Ip):Int:=if d.2.1=2∨d.2.1=4 then max 1 d.2.2.2.1 else 2
def Jg (bs:List UInt8) (d:Ip) (i:Nat):Int:=if h:i < bs.length then ((bs[i]).toNat:Int) % Qi d else 0
def Ef (bs:List UInt8):List Ip→Nat→List Int
 | [],_=>[]
 | d::r,i=>Jg bs d i::Ef bs r (i+1)
def Jn (p:Pg):B9:=((GE p).1.1,(GE p).1.2.1,(GE p).1.2.2,())
def GN (x:Rn):Option (Pg×List Int×MO) :=
 if (Cq x.1.b).2≠0∨(GE (Cq x.1.b).1).2≠0∨BH (Cq x.1.b).1≠0 then none
 else if (H3 (Jn (Cq x.1.b).1) (Ef x.2.1 (Cq x.1.b).1.1 0) []).2≠0 then none
 else some ((Cq x.1.b).1,Ef x.2.1 (Cq x.1.b).1.1 0,(H3 (Jn (Cq x.1.b).1) (Ef x.2.1 (Cq x.1.b).1.1 0) []).1)
def ae (k:Nat):Dg:=⟨[UInt8.ofNat k,0,0,0,0,0,0,0,0,0,0,0,0,0,0,0]⟩
def Ot (k:Nat) (ins:List Int) (o:MO):Ev:=(ae k,ins,o.1,o.2.1,o.2.2.1,())
def Du:List Rn→Nat→List Pg×List Ev→List Pg×List Ev
 | [],_,a=>a
 | x::r,k,a=>if k≥4∨x.1.b.length > 400 then a else match GN x with
  | none=>Du r (k+1) a
  | some (p,ins,o)=>Du r (k+1) (a.1++[p],a.2++[Ot k ins o])
def F2 (l:List Rn):List Pg×List Ev:=Du l 0 ([],[])
theorem Lp:∀ (l:List Rn) (k:Nat) (a:List Pg×List Ev),a.1.length=a.2.length→a.1.length≤k→(Du l k a).1.length=(Du l k a).2.length∧(Du l k a).1.length≤max k 4
 | [],k,a,h,h2=>⟨h,by rw [Du];omega⟩
 | x::r,k,a,h,h2=>by
  rw [Du];split
  ·exact ⟨h,by omega⟩
  ·split
   ·have:=Lp r (k+1) a h (by omega);exact ⟨this.1,by omega⟩
   ·rename_i p ins o hq;have:=Lp r (k+1) (a.1++[p],a.2++[Ot k ins o]) (by simp [h]) (by simp;omega);exact ⟨this.1,by omega⟩
set_option maxRecDepth 100000 in
theorem iv:Cq Lw=(Cy,0):=by
 rw [Cq,Yb];simp [EO,B6,C8,Dd,Ft,Ce,blockP,listP,Dl,DB,A0,opsP,unaryP,AS,Al,AM,E6,AN,BA,CU,KL,Ci,FU,Oo,Cy];omega
def Z3:B9:=([(2,0,0,()),(1,1,0,()),(8,0,0,()),(12,9,0,()),(2,0,0,()),(1,0,0,()),(8,0,0,()),(12,9,1,()),(15,3,0,()),(16,0,0,())],1,2,())
theorem Vv:Jn Cy=Z3:=by unfold Jn;rw [OL];rfl
set_option maxRecDepth 100000 in
theorem bh:H3 Z3 [0] []=(([2,0],[],0,5,()),0):=by decide
def A4:Ev:=(⟨[0,0,0,0,0,0,0,0,0,0,0,0,0,0,0,0]⟩,[0],[2,0],[],0,())
theorem Yd:Ef [] Cy.1 0=[0]:=rfl
theorem Yc:GN (⟨Lw⟩,[],())=some (Cy,[0],([2,0],[],0,5,())):=by
 unfold GN;simp only [iv,Yd,Vv,bh,OL,Tt];rfl
theorem Vw:F2 [(⟨Lw⟩,[],())]=([Cy],[A4]):=by
 unfold F2;rw [Du,if_neg (by decide),Yc];rfl
def Z0 (s:VS) (a:Int):VR→Prop
 | .ok t=>t.fin=s.fin∨t.fin=a
 | .err _=>True
theorem Kq {s t a v} (h:s.fin=t.fin):Z0 t a (Cc s v):=by
 unfold Cc;split
 ·exact .inl h
 ·trivial
theorem Zu {gl points i s}:Z0 s i.2.1 (CC gl points i s):=by
 refine Jl (m:=Z0 s i.2.1) ?_ ?_ ?_ ?_ ?_ ?_ ?_ ?_ ?_ ?_ ?_
 ·exact fun _=>Kq rfl
 ·intro _;split
  ·exact Kq rfl
  ·trivial
 ·intro _;split
  ·trivial
  ·split
   ·exact .inl rfl
   ·trivial
 ·intro _ _ _ _;split
  ·trivial
  ·exact Kq rfl
 ·intro _;split
  ·trivial
  ·exact Kq rfl
 ·intro _;unfold Gq;split
  ·trivial
  ·split
   ·simp only;split
    ·exact .inl rfl
    ·exact .inl rfl
   ·trivial
 ·exact fun _=>.inl rfl
 ·intro _;split
  ·trivial
  ·exact .inl rfl
 ·exact fun _=>.inr rfl
 ·exact fun _=>.inl rfl
 ·intro _;split
  ·exact .inl rfl
  ·trivial
theorem RY {c:B9} {gl:List Int} {q:Int→Prop} (hq:∀ x∈c.1,q x.2.1):∀ (f:Nat) (s t:VS),q s.fin→F7 c gl f s=.ok t→q t.fin
 | 0,s,t,h,hr=>by cases hr;exact h
 | f+1,s,t,h,hr=>by
  rw [F7] at hr;split at hr
  ·cases hr;exact h
  ·cases hs:Fp c gl s with
   | err e=>rw [hs] at hr;cases hr
   | ok u =>
    rw [hs] at hr;refine RY hq f u t ?_ hr;unfold Fp at hs;split at hs
    ·split at hs
     ·rename_i h2;split at hs
      ·have hf:=Zu (gl:=gl) (points:=c.2.2.1) (i:=GV c s.pc) (s:=BO s);rw [hs] at hf;rcases hf with hf|hf
       ·rw [hf];exact h
       ·rw [hf];refine hq _ ?_;unfold GV;have hl:s.pc.toNat < c.1.length:=by omega
        rw [List.getD_eq_getElem?_getD,List.getElem?_eq_getElem hl];exact List.getElem_mem hl
      ·cases hs
     ·cases hs
    ·cases hs
theorem eE {c ins gl r} {q:Int→Prop} (h0:q 0) (hq:∀ x∈c.1,q x.2.1) (hr:H3 c ins gl=r):q r.1.2.2.1:=by
 rw [← hr];unfold H3;split
 ·split
  ·rename_i s hs;exact RY hq _ _ _ (by exact h0) hs
  ·exact h0
 ·exact h0
theorem eD {S v c ins gl r} (hc:RSl S v c.1) (hr:H3 c ins gl=r):Au r.1.2.2.1:=by
 refine eE (q:=Au) (by unfold Au;omega) (fun x hx=>?_) hr;obtain ⟨i,hi,rfl⟩:=List.getElem_of_mem hx;rcases hc with ⟨ad,cap,rfl,h0,_⟩|⟨b,o,cap,cc,T,fz,rfl,_,_,_,hR⟩
 ·rw [h0] at hi;simp at hi
 ·have h:=hR.2 i _ (List.getElem?_eq_getElem hi);exact h.2.2.2.1.2
theorem gw {S} {i:Nat} {vi vp vn ins o} (hi:i < 4) (h1:RSl S vi ins) (h2:RSl S vp o.1) (h3:RSl S vn o.2.1) (h4:Au o.2.2.1):
  Z.R S [.int .u8 (i:Int),.int .u8 0,.int .u8 0,.int .u8 0,.int .u8 0,.int .u8 0,.int .u8 0,.int .u8 0,.int .u8 0,.int .u8 0,.int .u8 0,.int .u8 0,.int .u8 0,.int .u8 0,.int .u8 0,.int .u8 0,vi,vp,vn,.int .i64 o.2.2.1] (Ot i ins o):=by
 have hd:Z.R S [.int .u8 (i:Int),.int .u8 0,.int .u8 0,.int .u8 0,.int .u8 0,.int .u8 0,.int .u8 0,.int .u8 0,.int .u8 0,.int .u8 0,.int .u8 0,.int .u8 0,.int .u8 0,.int .u8 0,.int .u8 0,.int .u8 0] (ae i):=by
  have:=BL (S:=S) (d:=ae i) rfl
  have e:u8s (ae i).l=[.int .u8 (i:Int),.int .u8 0,.int .u8 0,.int .u8 0,.int .u8 0,.int .u8 0,.int .u8 0,.int .u8 0,.int .u8 0,.int .u8 0,.int .u8 0,.int .u8 0,.int .u8 0,.int .u8 0,.int .u8 0,.int .u8 0]:=by
   match i,hi with
   | 0,_=>rfl
   | 1,_=>rfl
   | 2,_=>rfl
   | 3,_=>rfl
  rwa [e] at this
 exact AG hd (AG (cs:=[_]) ⟨_,rfl,h1⟩ (AG (cs:=[_]) ⟨_,rfl,h2⟩ (AG (cs:=[_]) ⟨_,rfl,h3⟩ (AG (cs:=[_]) ⟨rfl,h4⟩ CM))))
theorem LJ {l:List Int} {i} (h):l.getD i 0=l[i]:=by rw [List.getD_eq_getElem?_getD,List.getElem?_eq_getElem h];rfl
section
variable {S:Ad} {M:List J} {b:Nat} {vi vg:Value} {c:B9} {s:VS} {vv vs vp vn:Value}
theorem fN {a b} (ha:DA a) (hb:DA b):0≤a * b∧a * b≤4294836225:=by
 unfold DA at *;refine ⟨Int.mul_nonneg ha.1 hb.1,?_⟩;have:=Int.mul_le_mul ha.2 hb.2 hb.1 (by decide)
 simpa using this
end
abbrev Bs (vi:Value) (c:B9):Value:=.agg #[vi,.int .i64 c.2.1,.int .i64 c.2.2.1]
theorem lx:∀ a < 4,∀ b < 4,bits .or .i64 ((a:Nat):Int) ((b:Nat):Int)=((a ||| b:Nat):Int):=by decide +kernel
theorem fo {P S M l T U x y a b} (hx:Ai l x=.int .i64 a) (hy:Ai l y=.int .i64 b) (ha:0≤a∧a≤3) (hb:0≤b∧b≤3):Qt P l (.binOp .or T x y U) S M (.int .i64 (GH a b)):=fun dst ty pos af w _=>by
 have e:bits .or .i64 a b=GH a b:=by
  have:=lx a.toNat (by omega) b.toNat (by omega);rw [Int.toNat_of_nonneg ha.1,Int.toNat_of_nonneg hb.1] at this;exact this
 simp [execOp,hx,hy,eqGuard_at_int,binOp_or,intBits_or,e]
abbrev Ee (i:Q7):List Value:=[.int .i64 i.1,.int .i64 i.2.1,.int .i64 i.2.2.1]
abbrev P6:TypeId:=99
abbrev In:List Value:=[.slice none 0 0,.slice none 0 0,.int .i64 0,.int .i64 0]
abbrev fF (vp vn:Value) (fin steps:Int):List Value:=[vp,vn,.int .i64 fin,.int .i64 steps]
theorem Ij {α:Type} [Z α] {S}:RSl S (.slice none 0 0) ([]:List α):=.inl ⟨none,0,rfl,rfl,by simp [maxLen]⟩
theorem Ae {α:Type} [Z α] {S v} {xs:List α} (h:RSl S v xs):∃ a n c,v=.slice a n c:=by
 rcases h with ⟨ad,cap,rfl,_⟩|⟨b,o,cap,c,T,fz,rfl,_⟩<;>exact ⟨_,_,_,rfl⟩
theorem FI {S c xs} (h:RL S c xs):c=cF Ba xs :=
 RL.flat (S:=S) (S':=S) (fun a b=>by rw [a.1,b.1]) h (Kd fun x hx=>by
  obtain ⟨i,hi,rfl⟩:=List.mem_iff_getElem.1 hx;exact (h.at_ i hi).2)
theorem QZ (xs):cF Ba xs=xs.map fun n=>.int .i64 n:=by
 induction xs with
 | nil=>rfl
 | cons x xs ih=>show _::cF Ba xs=_;rw [ih];rfl
theorem IV (xs ys):cF Ba (xs++ys)=cF Ba xs++cF Ba ys:=by rw [QZ,QZ,QZ,List.map_append]
theorem IN {x} (h:DA x):Au x:=by unfold DA Au at *;omega
theorem Ni {x} (h:0≤x∧x≤3):Au x:=by unfold Au;omega
abbrev ZV (S:Ad) (M:List J) (r:MO×Nat) (v:Value) (w:World):Prop :=
 ∃ S' a n k a' n' k',S.Le S'∧v=.tuple #[.agg (fF (.slice a n k) (.slice a' n' k') r.1.2.2.1 r.1.2.2.2.1).toArray,.int .i64 (r.2:Int)]∧RSl S' (.slice a n k) r.1.1∧RSl S' (.slice a' n' k') r.1.2.1∧St S' M w
theorem GU {S M w v n c T} (xs) (hx:∀ x∈xs,Au x) (h:St S (.sl v T 1 n c::M) w) (hc:c=cF Ba xs) (hn:n=xs.length):∃ S',S.Le S'∧St S' M w∧RSl S' v xs :=
 St.freeze (α:=Int) (hc▸h) (Kd hx) hn
theorem PU {S v xs} (h:RSl S v xs):∀ x∈xs,Au x:=by
 intro x hx;obtain ⟨i,hi,rfl⟩:=List.mem_iff_getElem.1 hx;rcases h with ⟨ad,cap,_,h,_⟩|⟨b,o,cap,c,T,fz,_,_,_,_,h⟩
 ·subst h;simp at hi
 ·exact (h.at_ i hi).2
end Go.Proofs.YtmmbidoldegemaaGreatDoor
