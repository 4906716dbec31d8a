/- Part 36 of the proof that the law of the last part holds; no conditions. -/
import Derived.Test.YtmmbidoldegemaaGreatDoorZ08
import Derived.Test.YtmmbidoldegemaaGreatDoorZ14
set_option linter.unusedSimpArgs false
set_option linter.unusedVariables false
set_option maxRecDepth 8000
set_option maxHeartbeats 8000000
namespace Go.Proofs.YtmmbidoldegemaaGreatDoor
open Go.RowKit Go.Sl
abbrev DS:=Int×Int×Int×Unit
abbrev Cq:=List DS×Int×Int×Unit
abbrev GZ:=List Int×List Int×Int×Int×Unit
structure VS where
 pc:Int
 vars:List Int
 stack:List Int
 br:Nat
 pts:List Int
 notes:List Int
 fin:Int
 steps:Nat
 done:Bool
inductive VR where
 | ok (s:VS)
 | err (e:Nat)
def VR.bind (r:VR) (k:VS→VR):VR:=match r with|.ok s=>k s|.err e=>.err e
def Ih (n:Int):Int:=n % 65536
def FR (b:Bool):Int:=if b then 1 else 0
def CO (s:VS) (v:Int):VR:=if s.stack.length < 400 then .ok { s with stack:=s.stack++[v] } else .err 2
def Ed (s:VS):Int:=s.stack.getD (s.stack.length - 1) 0
abbrev Cb (s:VS):VS:={ s with stack:=s.stack.take (s.stack.length - 1) }
def Ga (s:VS) (a:Int):Bool:=decide (0≤a∧a < s.vars.length)
def PV (op a b:Int):Int :=
 if op=4 then Ih (a+b) else if op=5 then Ih (a - b) else if op=6 then Ih (a * b) else if op=7 then FR (decide (a < b))
 else if op=8 then FR (decide (a=b)) else if op=9 then FR (decide (a≠0) && decide (b≠0)) else FR (decide (a≠0) || decide (b≠0))
def Q4 (p side:Int):Int:=((p.toNat ||| side.toNat:Nat):Int)
def Fm (l:List Int) (a v:Int):List Int:=l.set a.toNat v
def JC (v:Int):Int:=max (v - 1) 0
def Gp (gl:List Int) (points:Int) (i:DS) (s:VS):VR :=
 if s.stack.length=0 then .err 21 else
 if 0≤i.2.2.1∧i.2.2.1 < points then
  let s':={ Cb s with br:=s.br+1 }
  if (decide (Ed s≠0)) ^^ gl.contains (s.br:Int) then .ok { s' with pts:=Fm s.pts i.2.2.1 (Q4 (s.pts.getD i.2.2.1.toNat 0) 1) }
  else .ok { s' with pts:=Fm s.pts i.2.2.1 (Q4 (s.pts.getD i.2.2.1.toNat 0) 2),pc:=i.2.1 }
 else .err 21
def Co (gl:List Int) (points:Int) (i:DS) (s:VS):VR :=
 if i.1=1 then CO s (Ih i.2.1)
 else if i.1=2 then if Ga s i.2.1 then CO s (s.vars.getD i.2.1.toNat 0) else .err 21
 else if i.1=3 then if s.stack.length=0 then .err 21 else if Ga s i.2.1 then .ok { Cb s with vars:=Fm s.vars i.2.1 (Ed s) } else .err 21
 else if i.1≤10 then if s.stack.length < 2 then .err 21 else CO (Cb (Cb s)) (PV i.1 (Ed (Cb s)) (Ed s))
 else if i.1=11 then if s.stack.length=0 then .err 21 else CO (Cb s) (FR (decide (Ed s=0)))
 else if i.1=12 then Gp gl points i s
 else if i.1=13 then .ok { s with pc:=i.2.1 }
 else if i.1=14 then if s.stack.length=0 then .err 21 else .ok { Cb s with notes:=s.notes++[Ed s] }
 else if i.1=15 then .ok { s with fin:=i.2.1,done:=true }
 else if i.1=16 then .ok { s with done:=true }
 else if Ga s i.2.1 then
  let v:=JC (s.vars.getD i.2.1.toNat 0)
  .ok { s with vars:=Fm s.vars i.2.1 v,pc:=if 0 < v then i.2.2.1 else s.pc }
 else .err 21
def H9 (c:Cq) (pc:Int):DS:=c.1.getD pc.toNat (0,0,0,())
abbrev Ir (s:VS):VS:={ s with pc:=s.pc+1,steps:=s.steps+1 }
def FT (c:Cq) (gl:List Int) (s:VS):VR :=
 if s.steps < 3000 then
  if 0≤s.pc∧s.pc < c.1.length then
   if 1≤(H9 c s.pc).1∧(H9 c s.pc).1 < 18 then Co gl c.2.2.1 (H9 c s.pc) (Ir s) else .err 21
  else .err 21
 else .err 20
def GV (c:Cq) (gl:List Int):Nat→VS→VR
 | 0,s=>.ok s
 | f+1,s=>if s.done then .ok s else (FT c gl s).bind (GV c gl f)
def CV (c:Cq) (inputs:List Int):VS:=⟨0,inputs++List.replicate (c.2.1.toNat - inputs.length) 0,[],0,List.replicate c.2.2.1.toNat 0,[],0,0,false⟩
def Hu (c:Cq) (inputs:List Int):Bool :=
 decide (0≤c.2.2.1) && decide (c.2.2.1≤8) && decide ((inputs.length:Int)≤c.2.1) && decide (c.2.1≤400) && inputs.all fun n=>decide (0≤n∧n < 65536)
def O2 (s:VS):GZ:=(s.pts,s.notes,s.fin,(s.steps:Int),())
def Xr:GZ:=([],[],0,0,())
def JL (c:Cq) (inputs gl:List Int):GZ×Nat :=
 if Hu c inputs then match GV c gl 3001 (CV c inputs) with|.ok s=>(O2 s,0)|.err e=>(Xr,e)
 else (Xr,1)
theorem IC {gl:List Int} {points:Int} {i:DS} {s:VS} {m:VR→Prop}
  (h1:i.1=1→m (CO s (Ih i.2.1)))
  (h2:i.1=2→m (if Ga s i.2.1 then CO s (s.vars.getD i.2.1.toNat 0) else .err 21))
  (h3:i.1=3→m (if s.stack.length=0 then .err 21 else if Ga s i.2.1 then .ok { Cb s with vars:=Fm s.vars i.2.1 (Ed s) } else .err 21))
  (h4:i.1≠1→i.1≠2→i.1≠3→i.1≤10→m (if s.stack.length < 2 then .err 21 else CO (Cb (Cb s)) (PV i.1 (Ed (Cb s)) (Ed s))))
  (h11:i.1=11→m (if s.stack.length=0 then .err 21 else CO (Cb s) (FR (decide (Ed s=0)))))
  (h12:i.1=12→m (Gp gl points i s))
  (h13:i.1=13→m (.ok { s with pc:=i.2.1 }))
  (h14:i.1=14→m (if s.stack.length=0 then .err 21 else .ok { Cb s with notes:=s.notes++[Ed s] }))
  (h15:i.1=15→m (.ok { s with fin:=i.2.1,done:=true }))
  (h16:i.1=16→m (.ok { s with done:=true }))
  (h17:16 < i.1→m (if Ga s i.2.1 then .ok { s with vars:=Fm s.vars i.2.1 (JC (s.vars.getD i.2.1.toNat 0)),pc:=if 0 < JC (s.vars.getD i.2.1.toNat 0) then i.2.2.1 else s.pc } else .err 21)) :
  m (Co gl points i s):=by
 unfold Co;by_cases e1:i.1=1
 ·rw [if_pos e1];exact h1 e1
 rw [if_neg e1];by_cases e2:i.1=2
 ·rw [if_pos e2];exact h2 e2
 rw [if_neg e2];by_cases e3:i.1=3
 ·rw [if_pos e3];exact h3 e3
 rw [if_neg e3];by_cases e4:i.1≤10
 ·rw [if_pos e4];exact h4 e1 e2 e3 e4
 rw [if_neg e4];by_cases e11:i.1=11
 ·rw [if_pos e11];exact h11 e11
 rw [if_neg e11];by_cases e12:i.1=12
 ·rw [if_pos e12];exact h12 e12
 rw [if_neg e12];by_cases e13:i.1=13
 ·rw [if_pos e13];exact h13 e13
 rw [if_neg e13];by_cases e14:i.1=14
 ·rw [if_pos e14];exact h14 e14
 rw [if_neg e14];by_cases e15:i.1=15
 ·rw [if_pos e15];exact h15 e15
 rw [if_neg e15];by_cases e16:i.1=16
 ·rw [if_pos e16];exact h16 e16
 rw [if_neg e16];exact h17 (by omega)
def Gb (n:Int):Prop:=0≤n∧n≤65535
structure EZ (c:Cq) (s:VS):Prop where
 vlen:s.vars.length=c.2.1.toNat
 vars:∀ v∈s.vars,Gb v
 stack:∀ v∈s.stack,Gb v
 slen:s.stack.length≤400
 br:s.br≤s.steps
 plen:s.pts.length=c.2.2.1.toNat
 pts:∀ v∈s.pts,0≤v∧v≤3
 notes:∀ v∈s.notes,Gb v
 nlen:s.notes.length+(if s.done then 1 else 0)≤s.steps
 steps:s.steps≤3000
def Ox (p:VS→Prop):VR→Prop
 | .ok s=>p s
 | .err e=>e=2∨e=20∨e=21
theorem OA (n:Int):Gb (Ih n):=by unfold Gb Ih;omega
theorem NF (b:Bool):Gb (FR b):=by unfold Gb FR;cases b<;>simp
theorem getD_in {l:List Int} (h:∀ v∈l,Gb v) (k:Nat):Gb (l.getD k 0):=by
 apply gG ()
theorem ba (op a b:Int):Gb (PV op a b):=by
 unfold PV
 repeat' split
 all_goals first|exact OA _|exact NF _
theorem XF {v:Int} (h:Gb v):Gb (JC v):=by unfold Gb JC at *;omega
theorem MZ {p:Int→Prop} {l:List Int} (h:∀ v∈l,p v) {k:Nat} {x:Int} (hx:p x):∀ v∈l.set k x,p v:=fun v hv=>by
 rcases List.mem_or_eq_of_mem_set hv with hv|rfl
 ·exact h v hv
 ·exact hx
theorem RI {p:Int→Prop} {l:List Int} (h:∀ v∈l,p v) {x:Int} (hx:p x):∀ v∈l++[x],p v:=fun v hv=>by
 rcases List.mem_append.1 hv with hv|hv
 ·exact h v hv
 ·rw [List.mem_singleton.1 hv];exact hx
theorem Hy {p:Int→Prop} {l:List Int} (h:∀ v∈l,p v) {k:Nat}:∀ v∈l.take k,p v:=fun v hv=>h v (List.mem_of_mem_take hv)
theorem k5:∀ a < 4,∀ b < 4,a ||| b < 4:=by decide
theorem dv {p side:Int} (h:0≤p∧p≤3) (k:0≤side∧side≤3):0≤Q4 p side∧Q4 p side≤3:=by
 unfold Q4;have:=k5 p.toNat (by omega) side.toNat (by omega);omega
theorem aF {l:List Int} (h:∀ v∈l,0≤v∧v≤3) (k:Nat):0≤l.getD k 0∧l.getD k 0≤3:=by
 apply gG ()
theorem R0 {c:Cq} {inputs:List Int} (h:Hu c inputs=true):EZ c (CV c inputs):=by
 unfold Hu at h;simp only [Bool.and_eq_true,decide_eq_true_eq,List.all_eq_true] at h;obtain ⟨⟨⟨⟨h1,h2⟩,h3⟩,h4⟩,h5⟩:=h;refine ⟨?_,?_,by simp [CV],by simp [CV],by simp [CV],by simp [CV],?_,by simp [CV],by simp [CV],by simp [CV]⟩
 ·simp [CV];omega
 ·intro v hv;rcases List.mem_append.1 hv with hv|hv
  ·have:=h5 v hv;unfold Gb;omega
  ·rw [(List.mem_replicate.1 hv).2];exact ⟨Int.le_refl _,by decide⟩
 ·intro v hv;rw [(List.mem_replicate.1 hv).2];exact ⟨Int.le_refl _,by decide⟩
theorem Iq {c:Cq} {s:VS} (g:EZ c s) {v:Int} (hv:Gb v):Ox (EZ c) (CO s v):=by
 unfold CO;split
 ·exact ⟨g.vlen,g.vars,RI g.stack hv,by simp;omega,g.br,g.plen,g.pts,g.notes,g.nlen,g.steps⟩
 ·exact .inl rfl
theorem LE {c:Cq} {s:VS} (g:EZ c s):EZ c (Cb s) :=
 ⟨g.vlen,g.vars,Hy g.stack,by have:=g.slen;simp [Cb];omega,g.br,g.plen,g.pts,g.notes,g.nlen,g.steps⟩
theorem TH {c:Cq} {s:VS} (g:EZ c s):Gb (Ed s):=getD_in g.stack _
theorem Vr {c:Cq} {gl:List Int} {i:DS} {s:VS} (g:EZ c s) (hd:s.done=false) (hb:s.br < s.steps) (hn:s.notes.length < s.steps):Ox (EZ c) (Co gl c.2.2.1 i s):=by
 have h21:Ox (EZ c) (.err 21):=.inr (.inr rfl);have hsl:=g.slen;refine IC ?_ ?_ ?_ ?_ ?_ ?_ ?_ ?_ ?_ ?_ ?_
 ·exact fun _=>Iq g (OA _)
 ·intro _;by_cases h:Ga s i.2.1=true
  ·rw [if_pos h];exact Iq g (getD_in g.vars _)
  ·rw [if_neg h];exact h21
 ·intro _;by_cases h0:s.stack.length=0
  ·rw [if_pos h0];exact h21
  rw [if_neg h0];by_cases h:Ga s i.2.1=true
  ·rw [if_pos h];exact ⟨by simp [Fm,Cb,g.vlen],MZ g.vars (TH g),Hy g.stack,by simp [Cb];omega,g.br,g.plen,g.pts,g.notes,g.nlen,g.steps⟩
  ·rw [if_neg h];exact h21
 ·intro _ _ _ _;by_cases h0:s.stack.length < 2
  ·rw [if_pos h0];exact h21
  ·rw [if_neg h0];exact Iq (LE (LE g)) (ba _ _ _)
 ·intro _;by_cases h0:s.stack.length=0
  ·rw [if_pos h0];exact h21
  ·rw [if_neg h0];exact Iq (LE g) (NF _)
 ·intro _;unfold Gp;by_cases h0:s.stack.length=0
  ·rw [if_pos h0];exact h21
  rw [if_neg h0];by_cases h1:0≤i.2.2.1∧i.2.2.1 < c.2.2.1
  ·rw [if_pos h1];have hp:∀ side:Int,0≤side∧side≤3→∀ v∈Fm s.pts i.2.2.1 (Q4 (s.pts.getD i.2.2.1.toNat 0) side),0≤v∧v≤3:=fun side hs=>MZ g.pts (dv (aF g.pts _) hs)
   simp only;split
   ·exact ⟨g.vlen,g.vars,Hy g.stack,by simp [Cb];omega,hb,by simp [Fm,g.plen],hp 1 ⟨by decide,by decide⟩,g.notes,g.nlen,g.steps⟩
   ·exact ⟨g.vlen,g.vars,Hy g.stack,by simp [Cb];omega,hb,by simp [Fm,g.plen],hp 2 ⟨by decide,by decide⟩,g.notes,g.nlen,g.steps⟩
  ·rw [if_neg h1];exact h21
 ·exact fun _=>⟨g.vlen,g.vars,g.stack,g.slen,g.br,g.plen,g.pts,g.notes,g.nlen,g.steps⟩
 ·intro _;by_cases h0:s.stack.length=0
  ·rw [if_pos h0];exact h21
  ·rw [if_neg h0];exact ⟨g.vlen,g.vars,Hy g.stack,by simp [Cb];omega,g.br,g.plen,g.pts,RI g.notes (TH g),by simp [Cb,hd];omega,g.steps⟩
 ·exact fun _=>⟨g.vlen,g.vars,g.stack,g.slen,g.br,g.plen,g.pts,g.notes,by simp;omega,g.steps⟩
 ·exact fun _=>⟨g.vlen,g.vars,g.stack,g.slen,g.br,g.plen,g.pts,g.notes,by simp;omega,g.steps⟩
 ·intro _;by_cases h:Ga s i.2.1=true
  ·rw [if_pos h];exact ⟨by simp [Fm,g.vlen],MZ g.vars (XF (getD_in g.vars _)),g.stack,g.slen,g.br,g.plen,g.pts,g.notes,g.nlen,g.steps⟩
  ·rw [if_neg h];exact h21
def V9 (n:Nat):VR→Prop
 | .ok t=>t.steps=n
 | .err _=>True
theorem IN {s:VS} {v:Int}:V9 s.steps (CO s v):=by
 unfold CO;split<;>first|rfl|trivial
theorem Qu {gl:List Int} {pts:Int} {i:DS} {s:VS}:V9 s.steps (Co gl pts i s):=by
 refine IC ?_ ?_ ?_ ?_ ?_ ?_ ?_ ?_ ?_ ?_ ?_;all_goals (intros;first|rfl|exact IN|(split<;>first|trivial|rfl|exact IN|exact (IN (s:=Cb _))|(split<;>first|trivial|rfl))|(unfold Gp;repeat' (first|trivial|rfl|split)))
theorem SW {gl:List Int} {pts:Int} {i:DS} {s:VS}:∀ t,Co gl pts i s=.ok t→t.steps=s.steps:=by
 intro t h;have:=Qu (gl:=gl) (pts:=pts) (i:=i) (s:=s);rw [h] at this;exact this
theorem TY {c:Cq} {gl:List Int} {s:VS} (g:EZ c s) (hd:s.done=false):Ox (fun t=>EZ c t∧t.steps=s.steps+1) (FT c gl s):=by
 unfold FT;split
 ·split
  ·split
   ·have g':EZ c (Ir s):=⟨g.vlen,g.vars,g.stack,g.slen,by have:=g.br;show s.br≤s.steps+1;omega,g.plen,g.pts,g.notes,Nat.le_succ_of_le g.nlen,by show s.steps+1≤3000;omega⟩
    have hn:=g.nlen;rw [hd] at hn;have h:=Vr (gl:=gl) (i:=H9 c s.pc) g' hd (by have:=g.br;show s.br < s.steps+1;omega) (by show s.notes.length < s.steps+1;simp at hn;omega);have hs:=SW (gl:=gl) (pts:=c.2.2.1) (i:=H9 c s.pc) (s:=Ir s)
    cases e:Co gl c.2.2.1 (H9 c s.pc) (Ir s) with
    | ok t=>rw [e] at h hs;exact ⟨h,hs t rfl⟩
    | err k=>rw [e] at h;exact h
   ·exact .inr (.inr rfl)
  ·exact .inr (.inr rfl)
 ·exact .inr (.inl rfl)
structure D6 (s t:VS):Prop where
 pc:t.pc=s.pc
 vars:∃ z,t.vars=s.vars++z
 stack:t.stack=s.stack
 br:t.br=s.br
 pts:t.pts=s.pts
 notes:t.notes=s.notes
 fin:t.fin=s.fin
 steps:t.steps=s.steps
 done:t.done=s.done
theorem D6.inn {s t:VS} (h:D6 s t) {a:Int} (k:Ga s a=true):Ga t a=true∧a.toNat < s.vars.length∧t.vars.getD a.toNat 0=s.vars.getD a.toNat 0∧∀ x,∃ z,Fm t.vars a x=Fm s.vars a x++z:=by
 obtain ⟨z,hz⟩:=h.vars;unfold Ga at *;simp only [decide_eq_true_eq] at *;have hlt:a.toNat < s.vars.length:=by omega
 refine ⟨by rw [hz,List.length_append];omega,hlt,?_,fun x=>⟨z,?_⟩⟩
 ·rw [List.getD_eq_getElem?_getD,List.getD_eq_getElem?_getD,hz,List.getElem?_append_left hlt]
 ·unfold Fm;rw [hz,List.set_append_left _ _ hlt]
theorem D6.top {s t:VS} (h:D6 s t):Ed t=Ed s:=by unfold Ed;rw [h.stack]
theorem D6.pop {s t:VS} (h:D6 s t):D6 (Cb s) (Cb t):=⟨h.pc,h.vars,by simp only [Cb,h.stack],h.br,h.pts,h.notes,h.fin,h.steps,h.done⟩
theorem D6.push {s t u:VS} (h:D6 s t) {v:Int} (k:CO s v=.ok u):∃ u',CO t v=.ok u'∧D6 u u':=by
 unfold CO at *;rw [h.stack];split at k
 ·cases k;rename_i hh;rw [if_pos hh];exact ⟨_,rfl,h.pc,h.vars,by simp only [h.stack],h.br,h.pts,h.notes,h.fin,h.steps,h.done⟩
 ·cases k
def Dw (r r':VR):Prop:=∀ u,r=.ok u→∃ u',r'=.ok u'∧D6 u u'
theorem Dw.err {e:Nat} {r:VR}:Dw (.err e) r:=fun _ h=>by cases h
theorem Dw.ok {u u':VS} (h:D6 u u'):Dw (.ok u) (.ok u'):=fun _ e=>by cases e;exact ⟨_,rfl,h⟩
theorem D6.pushR {s t:VS} (h:D6 s t) {v:Int}:Dw (CO s v) (CO t v):=fun _ k=>h.push k
theorem aM {gl:List Int} {pts:Int} {i:DS} {s:VS} (e:i.1=1):Co gl pts i s=(CO s (Ih i.2.1)):=by
 obtain ⟨op,a,b,u⟩:=i;obtain rfl:op=1:=e;rfl
theorem aL {gl:List Int} {pts:Int} {i:DS} {s:VS} (e:i.1=2):Co gl pts i s=(if Ga s i.2.1 then CO s (s.vars.getD i.2.1.toNat 0) else .err 21):=by
 obtain ⟨op,a,b,u⟩:=i;obtain rfl:op=2:=e;rfl
theorem aK {gl:List Int} {pts:Int} {i:DS} {s:VS} (e:i.1=3):Co gl pts i s=(if s.stack.length=0 then .err 21 else if Ga s i.2.1 then .ok { Cb s with vars:=Fm s.vars i.2.1 (Ed s) } else .err 21):=by
 obtain ⟨op,a,b,u⟩:=i;obtain rfl:op=3:=e;rfl
theorem Yc {gl:List Int} {pts:Int} {i:DS} {s:VS} (e:i.1=11):Co gl pts i s=(if s.stack.length=0 then .err 21 else CO (Cb s) (FR (decide (Ed s=0)))):=by
 obtain ⟨op,a,b,u⟩:=i;obtain rfl:op=11:=e;rfl
theorem Yb {gl:List Int} {pts:Int} {i:DS} {s:VS} (e:i.1=12):Co gl pts i s=(Gp gl pts i s):=by
 obtain ⟨op,a,b,u⟩:=i;obtain rfl:op=12:=e;rfl
theorem Ya {gl:List Int} {pts:Int} {i:DS} {s:VS} (e:i.1=13):Co gl pts i s=(.ok { s with pc:=i.2.1 }):=by
 obtain ⟨op,a,b,u⟩:=i;obtain rfl:op=13:=e;rfl
theorem X9 {gl:List Int} {pts:Int} {i:DS} {s:VS} (e:i.1=14):Co gl pts i s=(if s.stack.length=0 then .err 21 else .ok { Cb s with notes:=s.notes++[Ed s] }):=by
 obtain ⟨op,a,b,u⟩:=i;obtain rfl:op=14:=e;rfl
theorem X8 {gl:List Int} {pts:Int} {i:DS} {s:VS} (e:i.1=15):Co gl pts i s=(.ok { s with fin:=i.2.1,done:=true }):=by
 obtain ⟨op,a,b,u⟩:=i;obtain rfl:op=15:=e;rfl
theorem X7 {gl:List Int} {pts:Int} {i:DS} {s:VS} (e:i.1=16):Co gl pts i s=(.ok { s with done:=true }):=by
 obtain ⟨op,a,b,u⟩:=i;obtain rfl:op=16:=e;rfl
theorem aJ {gl:List Int} {pts:Int} {i:DS} {s:VS} (e1:i.1≠1) (e2:i.1≠2) (e3:i.1≠3) (e:i.1≤10):Co gl pts i s=(if s.stack.length < 2 then .err 21 else CO (Cb (Cb s)) (PV i.1 (Ed (Cb s)) (Ed s))):=by
 unfold Co;rw [if_neg e1,if_neg e2,if_neg e3,if_pos e]
theorem X6 {gl:List Int} {pts:Int} {i:DS} {s:VS} (e:16 < i.1):Co gl pts i s=(if Ga s i.2.1 then .ok { s with vars:=Fm s.vars i.2.1 (JC (s.vars.getD i.2.1.toNat 0)),pc:=if 0 < JC (s.vars.getD i.2.1.toNat 0) then i.2.2.1 else s.pc } else .err 21):=by
 have a1:i.1≠1:=by omega
 have a2:i.1≠2:=by omega
 have a3:i.1≠3:=by omega
 have a4:¬ i.1≤10:=by omega
 have a11:i.1≠11:=by omega
 have a12:i.1≠12:=by omega
 have a13:i.1≠13:=by omega
 have a14:i.1≠14:=by omega
 have a15:i.1≠15:=by omega
 have a16:i.1≠16:=by omega
 unfold Co;rw [if_neg a1,if_neg a2,if_neg a3,if_neg a4,if_neg a11,if_neg a12,if_neg a13,if_neg a14,if_neg a15,if_neg a16]
theorem D6.execR {gl:List Int} {pts:Int} {i:DS} {s t:VS} (h:D6 s t):Dw (Co gl pts i s) (Co gl pts i t):=by
 refine IC (m:=fun r=>Dw r (Co gl pts i t)) ?_ ?_ ?_ ?_ ?_ ?_ ?_ ?_ ?_ ?_ ?_
 ·intro e;rw [aM e];exact h.pushR
 ·intro e;rw [aL e];by_cases hi:Ga s i.2.1=true
  ·obtain ⟨a,_,b,_⟩:=h.inn hi;rw [if_pos hi,if_pos a,b];exact h.pushR
  ·rw [if_neg hi];exact Dw.err
 ·intro e;rw [aK e];by_cases h0:s.stack.length=0
  ·rw [if_pos h0];exact Dw.err
  rw [if_neg h0,if_neg (show ¬ t.stack.length=0 by rw [h.stack];exact h0)];by_cases hi:Ga s i.2.1=true
  ·obtain ⟨a,_,_,d⟩:=h.inn hi;rw [if_pos hi,if_pos a];exact Dw.ok ⟨h.pc,by rw [h.top];exact d _,by simp only [Cb,h.stack],h.br,h.pts,h.notes,h.fin,h.steps,h.done⟩
  ·rw [if_neg hi];exact Dw.err
 ·intro e1 e2 e3 e;rw [aJ e1 e2 e3 e];by_cases h0:s.stack.length < 2
  ·rw [if_pos h0];exact Dw.err
  ·rw [if_neg h0,if_neg (show ¬ t.stack.length < 2 by rw [h.stack];exact h0),h.top,h.pop.top];exact h.pop.pop.pushR
 ·intro e;rw [Yc e];by_cases h0:s.stack.length=0
  ·rw [if_pos h0];exact Dw.err
  ·rw [if_neg h0,if_neg (show ¬ t.stack.length=0 by rw [h.stack];exact h0),h.top];exact h.pop.pushR
 ·intro e;rw [Yb e];unfold Gp;rw [h.stack,h.top,h.br,h.pts];by_cases h0:s.stack.length=0
  ·rw [if_pos h0];exact Dw.err
  rw [if_neg h0,if_neg h0];by_cases h1:0≤i.2.2.1∧i.2.2.1 < pts
  ·rw [if_pos h1,if_pos h1];simp only;split
   ·exact Dw.ok ⟨h.pc,h.vars,by simp only [Cb,h.stack],rfl,rfl,h.notes,h.fin,h.steps,h.done⟩
   ·exact Dw.ok ⟨rfl,h.vars,by simp only [Cb,h.stack],rfl,rfl,h.notes,h.fin,h.steps,h.done⟩
  ·rw [if_neg h1];exact Dw.err
 ·intro e;rw [Ya e];exact Dw.ok ⟨rfl,h.vars,h.stack,h.br,h.pts,h.notes,h.fin,h.steps,h.done⟩
 ·intro e;rw [X9 e];by_cases h0:s.stack.length=0
  ·rw [if_pos h0];exact Dw.err
  ·rw [if_neg h0,if_neg (show ¬ t.stack.length=0 by rw [h.stack];exact h0)];exact Dw.ok ⟨h.pc,h.vars,by simp only [Cb,h.stack],h.br,h.pts,by simp only [h.notes,h.top],h.fin,h.steps,h.done⟩
 ·intro e;rw [X8 e];exact Dw.ok ⟨h.pc,h.vars,h.stack,h.br,h.pts,h.notes,rfl,h.steps,rfl⟩
 ·intro e;rw [X7 e];exact Dw.ok ⟨h.pc,h.vars,h.stack,h.br,h.pts,h.notes,h.fin,h.steps,rfl⟩
 ·intro e;rw [X6 e];by_cases hi:Ga s i.2.1=true
  ·obtain ⟨a,_,b,d⟩:=h.inn hi;rw [if_pos hi,if_pos a];exact Dw.ok ⟨by simp only [b,h.pc],by rw [b];exact d _,h.stack,h.br,h.pts,h.notes,h.fin,h.steps,h.done⟩
  ·rw [if_neg hi];exact Dw.err
theorem D6.exec {gl:List Int} {pts:Int} {i:DS} {s t u:VS} (h:D6 s t) (k:Co gl pts i s=.ok u):∃ u',Co gl pts i t=.ok u'∧D6 u u':=h.execR u k
structure fg (c d:Cq):Prop where
 ins:∃ z,d.1=c.1++z
 pts:d.2.2.1=c.2.2.1
theorem D6.step {c d:Cq} {gl:List Int} {s t u:VS} (m:fg c d) (h:D6 s t) (k:FT c gl s=.ok u):∃ u',FT d gl t=.ok u'∧D6 u u':=by
 obtain ⟨z,hz⟩:=m.ins;unfold FT at *;rw [h.steps,h.pc,m.pts];split at k
 ·rename_i h1;rw [if_pos h1];split at k
  ·rename_i h2
   have hi:H9 d s.pc=H9 c s.pc:=by
    unfold H9;rw [List.getD_eq_getElem?_getD,List.getD_eq_getElem?_getD,hz,List.getElem?_append_left (by omega)]
   rw [if_pos (by rw [hz,List.length_append];omega),hi];split at k
   ·rename_i h3;rw [if_pos h3];refine D6.exec (s:=Ir s) ⟨?_,h.vars,h.stack,h.br,h.pts,h.notes,h.fin,?_,h.done⟩ k
    ·simp only [Ir,h.pc]
    ·simp only [Ir,h.steps]
   ·cases k
  ·cases k
 ·cases k
theorem D6.run {c d:Cq} {gl:List Int} (m:fg c d):∀ (f:Nat) (s t u:VS),D6 s t→GV c gl f s=.ok u→∃ u',GV d gl f t=.ok u'∧D6 u u'
 | 0,s,t,u,h,k=>by cases k;exact ⟨t,rfl,h⟩
 | f+1,s,t,u,h,k=>by
  rw [GV] at k ⊢;rw [h.done]
  cases hd:s.done with
  | true=>rw [hd] at k;cases k;exact ⟨t,rfl,h⟩
  | false =>
   rw [hd,if_neg (by simp)] at k;rw [if_neg (by simp)]
   cases e:FT c gl s with
   | ok s' =>
    rw [e] at k;obtain ⟨t',e',h'⟩:=h.step m e;rw [e'];exact D6.run m f s' t' u h' k
   | err n=>rw [e] at k;cases k
theorem D6.out {s t:VS} (h:D6 s t):O2 t=O2 s:=by unfold O2;rw [h.pts,h.notes,h.fin,h.steps]
abbrev Rn:=By×List UInt8×Unit
def Pb (d:Ip):Int:=if d.2.1=2∨d.2.1=4 then max 1 d.2.2.2.1 else 2
def Iy (bs:List UInt8) (d:Ip) (i:Nat):Int:=if h:i < bs.length then ((bs[i]).toNat:Int) % Pb d else 0
def En (bs:List UInt8):List Ip→Nat→List Int
 | [],_=>[]
 | d::r,i=>Iy bs d i::En bs r (i+1)
def IE (p:Pg):Cq:=((F7 p).1.1,(F7 p).1.2.1,(F7 p).1.2.2,())
def HH (x:Rn):Option (Pg×List Int×GZ) :=
 if (Cj x.1.b).2≠0∨(F7 (Cj x.1.b).1).2≠0∨BH (Cj x.1.b).1≠0 then none
 else if (JL (IE (Cj x.1.b).1) (En x.2.1 (Cj x.1.b).1.1 0) []).2≠0 then none
 else some ((Cj x.1.b).1,En x.2.1 (Cj x.1.b).1.1 0,(JL (IE (Cj x.1.b).1) (En x.2.1 (Cj x.1.b).1.1 0) []).1)
def YS (k:Nat):Dg:=⟨[UInt8.ofNat k,0,0,0,0,0,0,0,0,0,0,0,0,0,0,0]⟩
def PH (k:Nat) (ins:List Int) (o:GZ):Ev:=(YS k,ins,o.1,o.2.1,o.2.2.1,())
def EX:List Rn→Nat→List Pg×List Ev→List Pg×List Ev
 | [],_,a=>a
 | x::r,k,a=>if k≥4∨x.1.b.length > 400 then a else match HH x with
  | none=>EX r (k+1) a
  | some (p,ins,o)=>EX r (k+1) (a.1++[p],a.2++[PH k ins o])
def MJ (l:List Rn):List Pg×List Ev:=EX l 0 ([],[])
set_option maxRecDepth 100000 in
theorem fx:Cj KG=(Ci,0):=by
 rw [Cj,WK];simp [Ep,BR,CQ,CT,E3,BZ,blockP,listP,C0,Di,AV,opsP,unaryP,AP,Al,AI,EC,AJ,Bs,CG,JZ,B6,Ft,Nt,Ci];omega
def YH:Cq:=([(2,0,0,()),(1,1,0,()),(8,0,0,()),(12,9,0,()),(2,0,0,()),(1,0,0,()),(8,0,0,()),(12,9,1,()),(15,3,0,()),(16,0,0,())],1,2,())
theorem Uo:IE Ci=YH:=by unfold IE;rw [NN];rfl
set_option maxRecDepth 100000 in
theorem Zm:JL YH [0] []=(([2,0],[],0,5,()),0):=by decide
def AY:Ev:=(⟨[0,0,0,0,0,0,0,0,0,0,0,0,0,0,0,0]⟩,[0],[2,0],[],0,())
theorem WM:En [] Ci.1 0=[0]:=rfl
theorem WL:HH (⟨KG⟩,[],())=some (Ci,[0],([2,0],[],0,5,())):=by
 unfold HH;simp only [fx,WM,Uo,Zm,NN,Sa];rfl
theorem Up:MJ [(⟨KG⟩,[],())]=([Ci],[AY]):=by
 unfold MJ;rw [EX,if_neg (by decide),WL];rfl
end Go.Proofs.YtmmbidoldegemaaGreatDoor
