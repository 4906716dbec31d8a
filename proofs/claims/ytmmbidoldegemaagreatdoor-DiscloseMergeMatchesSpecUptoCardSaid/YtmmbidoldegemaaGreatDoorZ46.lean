/- Part 47 of the proof that the law of the last part holds; no conditions. -/
import Derived.Test.YtmmbidoldegemaaGreatDoorZ44
import Derived.Test.YtmmbidoldegemaaGreatDoorZ45
set_option linter.unusedSimpArgs false
set_option linter.unusedVariables false
set_option maxRecDepth 8000
set_option maxHeartbeats 8000000
namespace Go.Proofs.YtmmbidoldegemaaGreatDoor
open Go.RowKit Go.Sl Go.Srt
abbrev bt {α:Type} [Rep α] (S:Ac) (M:List Chunk) (x:List α) (v:Value) (w:World):Prop:=∃ S',S.Le S'∧RSl S' v x∧St S' M w
theorem OX {P:Program} {S:Ac} {M:List Chunk} {l:List Value} {x y:Operand} {ats:Array TypeId} {k k':IntKind} {a b c:Int} (hx:Ai l x=.int k a) (hy:Ai l y=.int k' b) (h:max a b=c):Qt P l (.call { callee:=.builtin .max,args:=#[x,y],argTypes:=ats }) S M (.int k c):=h▸EK hx hy
theorem UD {S M} (w:World) (hst:St S M w) (vl:Value) (l:List Pn) (hl:RSl S vl l) (hm:l.length≤1000000) (cp:List Value) (p:Pn) (hp:Rep.R S cp p) :
  Ad Tryz.prog 33 [vl,.agg cp.toArray] w (bt S M (Dh kP l p)):=by
 unfold Ad;obtain ⟨at0,hat⟩:∃ k,EL kP l p l.length=k:=⟨_,rfl⟩
 have hatl:at0≤l.length:=by rw [← hat];exact PZ kP l p _
 obtain ⟨T,hT⟩:∃ T,(l.drop 0).take (at0 - 0)=T:=⟨_,rfl⟩
 obtain ⟨D,hD⟩:∃ D,(l.drop at0).take (l.length - at0)=D:=⟨_,rfl⟩
 have hTl:T.length≤1000000:=by rw [← hT,List.length_take,List.length_drop];omega
 have hDl:D.length≤1000000:=by rw [← hD,List.length_take,List.length_drop];omega
 have HI:Hid (Dh kP l p=T++[p]++D):=Lib.hid (by
  unfold Dh;rw [hat,← hT,← hD,Nat.sub_zero,List.drop_zero,List.take_of_length_le (l:=l.drop at0) (by rw [List.length_drop];omega)])
 have hp1:([p]:List Pn).length=1:=rfl;have HT:=Lib.hid hT;have HD2:=Lib.hid hD;clear hT hD;have HA:=Lib.hid hat;clear hat;go_enter Tryz.func33,Tryz.ntmps33;repeat' ((apply Z1 ());first|(apply gK ();go_step)|(apply sC ();clear hst;intro bx w hst)|fail)
 obtain ⟨S1,hS1,hst1,hpp⟩:=AC (α:=Pn) hst hp (Rep.len hp);clear hst;have hst:=hst1;clear hst1;generalize Value.pointer (some ⟨_,0,none⟩)=pP at hpp;have hl1:=hl.mono hS1;clear hl hp;repeat' (first|(apply gK ();go_step)|apply sY ()|fail)
 go_loopw [5] (fun u5 wr=>∃ n:Nat,n≤l.length∧u5=.int .i64 (n:Int)∧Hid (EL kP l p n=at0)∧St S1 M wr) (fun v _=>(intOf v).toNat)
 case atStart=>exact ⟨l.length,Nat.le_refl _,rfl,HA,hst⟩
 case round =>
  clear hst HA;obtain ⟨n1,hn1,rfl,HA,hst⟩:=hrel
  cases n1 with
  | zero =>
   obtain rfl:0=at0:=HA.out;have hz:decide (((0:Nat):Int) > 0)=false:=by decide
   repeat' ((apply Z2 ());first|(apply gK ();go_step)|fail)
   refine AN hst kr ?_;clear hst;intro w hst;have hSS:=Bk hst;(try refine nY ?_);refine pd 0 rfl ?_;refine pt 1 rfl (FD rfl rfl hz) ?_;refine pd 2 rfl ?_;refine pz 3 rfl ?_;refine pz 4 rfl ?_;refine pz 5 rfl ?_;refine pz 6 rfl ?_;refine pz 7 rfl ?_;refine pz 8 rfl ?_;refine pz 9 rfl ?_;refine pz 10 rfl ?_;refine pd 11 rfl ?_;refine Az kr ?_;repeat' ((apply Z4 ());first|(apply gK ();go_step)|fail)
   refine AN hst kr ?_;clear hst;intro w hst;have hSS:=Bk hst;(try refine nY ?_);refine pd 1 rfl ?_;refine pd 2 rfl ?_;refine px 3 rfl (DF (a:=0) (b:=0) Ab hl1 Aa Aa (.inl ⟨rfl,rfl⟩) (.inr ⟨.i64,by simp [Ai,AX]⟩) (.inl rfl) (by omega) (by omega)) ?_;rintro v3 hv3;rw [show List.take (0 - 0) l=_ from HT.out] at hv3;refine px 5 rfl (Av (y:=p) Ab hpp Aa) ?_;rintro v5 ⟨c5,rfl,hc5⟩;have hc5x:=hc5;obtain ⟨s5,rfl,_,_,_,_⟩:=BF hc5x;clear hc5x;refine pd 8 rfl ?_;refine pd 9 rfl ?_;refine px 10 rfl (DF (a:=0) (b:=l.length) Ab hl1 Aa Aa (.inr ⟨.i64,by simp [Ai,AX]⟩) (.inl ⟨rfl,rfl⟩) (.inl rfl) (by omega) (by omega)) ?_;rintro v10 hv10;rw [show List.take (l.length - 0) l=_ from HD2.out] at hv10;refine BQ 0 6 rfl rfl kr ?_ ?_;intro K hK;refine AA (vs:=[]) hst Aa Aa rfl rfl (by simp [Value.cells]) rfl (by omega) (by omega) ?_;clear hst;intro x0 w hst;(try replace hst:=nH hst);refine pn hK ?_;clear hK K;refine BQ 4 6 rfl rfl kr ?_ ?_;intro K hK;refine A2 hst Ab Ab SlIn.h (hv3.mono hSS) Aa Aa Aa (by omega) (by omega) (by decide) ?_;clear hst;intro x4 w d4 hd4 hst;have hone4:=Bh (k:=0) hst rfl;(try replace hst:=nH hst);refine pn hK ?_;clear hK K
   refine po 6 rfl ?_;intro K hK;refine AA (vs:=[.agg #[.int .i64 p.1,.int .i64 p.2.1,.int .i64 p.2.2.1,.slice s5.1 s5.2.1 s5.2.2]]) hst Aa Aa rfl rfl (by simp [Value.cells]) rfl (by omega) (by omega) ?_;clear hst;intro x6 w hst0;obtain ⟨S6,hS6,hst,hX6⟩:=St.freeze (α:=Pn) (xs:=[p]) hst0 (RL.one_mk (Rep.mono hSS hc5)) rfl;clear hst0;(try replace hst:=nH hst);replace hSS:=hSS.trans hS6;refine pn hK ?_;clear hK K;refine po 7 rfl ?_;intro K hK;refine A2 hst Ab Ab SlIn.h hX6 Aa Aa Aa (by omega) (by omega) (by decide) ?_;clear hst;intro x7 w d7 hd7 hst;have hone7:=Bh (k:=0) hst rfl;(try replace hst:=nH hst);refine pn hK ?_;clear hK K;refine po 11 rfl ?_;intro K hK;refine A2 hst Ab Ab SlIn.h (hv10.mono hSS) Aa Aa Aa (by omega) (by omega) (by decide) ?_;clear hst;intro x11 w d11 hd11 hst;have hone11:=Bh (k:=0) hst rfl;(try replace hst:=nH hst);refine pn hK ?_;clear hK K;refine pd 12 rfl ?_;refine Az kr ?_;rotate_left;intro K hK;refine AA (vs:=[.agg #[.int .i64 p.1,.int .i64 p.2.1,.int .i64 p.2.2.1,.slice s5.1 s5.2.1 s5.2.2]]) hst Aa Aa rfl rfl (by simp [Value.cells]) rfl (by omega) (by omega) ?_;clear hst;intro x6 w hst0;obtain ⟨S6,hS6,hst,hX6⟩:=St.freeze (α:=Pn) (xs:=[p]) hst0 (RL.one_mk (Rep.mono hSS hc5)) rfl;clear hst0;(try replace hst:=nH hst);replace hSS:=hSS.trans hS6;refine pn hK ?_;clear hK K
   refine po 4 rfl ?_;intro K hK;refine A2 hst Ab Ab SlIn.h (hv3.mono hSS) Aa Aa Aa (by omega) (by omega) (by decide) ?_;clear hst;intro x4 w d4 hd4 hst;have hone4:=Bh (k:=0) hst rfl;(try replace hst:=nH hst);refine pn hK ?_;clear hK K;refine po 7 rfl ?_;intro K hK;refine A2 hst Ab Ab SlIn.h hX6 Aa Aa Aa (by omega) (by omega) (by decide) ?_;clear hst;intro x7 w d7 hd7 hst;have hone7:=Bh (k:=0) hst rfl;(try replace hst:=nH hst);refine pn hK ?_;clear hK K;refine po 11 rfl ?_;intro K hK;refine A2 hst Ab Ab SlIn.h (hv10.mono hSS) Aa Aa Aa (by omega) (by omega) (by decide) ?_;clear hst;intro x11 w d11 hd11 hst;have hone11:=Bh (k:=0) hst rfl;(try replace hst:=nH hst);refine pn hK ?_;clear hK K;refine pd 12 rfl ?_;refine Az kr ?_;rotate_left;intro K hK;refine AA (vs:=[.agg #[.int .i64 p.1,.int .i64 p.2.1,.int .i64 p.2.2.1,.slice s5.1 s5.2.1 s5.2.2]]) hst Aa Aa rfl rfl (by simp [Value.cells]) rfl (by omega) (by omega) ?_;clear hst;intro x6 w hst0;obtain ⟨S6,hS6,hst,hX6⟩:=St.freeze (α:=Pn) (xs:=[p]) hst0 (RL.one_mk (Rep.mono hSS hc5)) rfl;clear hst0;(try replace hst:=nH hst);replace hSS:=hSS.trans hS6;refine pn hK ?_;clear hK K;refine po 0 rfl ?_;intro K hK;refine AA (vs:=[]) hst Aa Aa rfl rfl (by simp [Value.cells]) rfl (by omega) (by omega) ?_;clear hst;intro x0 w hst;(try replace hst:=nH hst);refine pn hK ?_;clear hK K
   refine po 4 rfl ?_;intro K hK;refine A2 hst Ab Ab SlIn.h (hv3.mono hSS) Aa Aa Aa (by omega) (by omega) (by decide) ?_;clear hst;intro x4 w d4 hd4 hst;have hone4:=Bh (k:=0) hst rfl;(try replace hst:=nH hst);refine pn hK ?_;clear hK K;refine po 7 rfl ?_;intro K hK;refine A2 hst Ab Ab SlIn.h hX6 Aa Aa Aa (by omega) (by omega) (by decide) ?_;clear hst;intro x7 w d7 hd7 hst;have hone7:=Bh (k:=0) hst rfl;(try replace hst:=nH hst);refine pn hK ?_;clear hK K;refine po 11 rfl ?_;intro K hK;refine A2 hst Ab Ab SlIn.h (hv10.mono hSS) Aa Aa Aa (by omega) (by omega) (by decide) ?_;clear hst;intro x11 w d11 hd11 hst;have hone11:=Bh (k:=0) hst rfl;(try replace hst:=nH hst);refine pn hK ?_;clear hK K;refine pd 12 rfl ?_;refine Az kr ?_;rotate_left
   all_goals
    apply ia ()
  | succ n =>
   have hlt:n < l.length:=by omega
   have hz:decide (((n+1:Nat):Int) > 0)=true:=by rw [decide_eq_true_eq];omega
   have cB:=fun {M:List Chunk} (w:World) (hst:St S1 M w) (c1:List Value) (h1:Rep.R S1 c1 p) (c2:List Value) (h2:Rep.R S1 c2 l[n])=>Yz w hst c1 p h1 c2 l[n] h2
   have HD:Hid (EL kP l p (n+1)=if Ff (kP p) (kP l[n]) then EL kP l p n else n+1):=Lib.hid (by rw [EL,List.getElem?_eq_getElem hlt]);have hmx:max 0 ((((n+1:Nat):Int)) - 1)=((n:Nat):Int):=by omega
   by_cases hk:Ff (kP p) (kP l[n])
   ·have HN:Hid (EL kP l p n=at0):=Lib.hid (by have:=HA.out;rw [HD.out,if_pos hk] at this;exact this);rw [decide_eq_true hk] at cB;clear hk HD HA;repeat' ((apply Z2 ());first|(apply gK ();go_step)|fail)
    refine AN hst kr ?_;clear hst;intro w hst;have hSS:=Bk hst;(try refine nY ?_);refine pd 0 rfl ?_;refine pt 1 rfl (FD rfl rfl hz) ?_;refine pd 2 rfl ?_;refine px 3 rfl (Av (y:=p) Ab hpp Aa) ?_;rintro v3 ⟨c3,rfl,hc3⟩;refine pd 4 rfl ?_;refine pd 5 rfl ?_;refine pt 6 rfl (C3 rfl rfl ⟨by omega,by omega⟩) ?_;refine pt 7 rfl (OX rfl rfl hmx) ?_;refine px 8 rfl (Ao Ab hl1 rfl Aa Aa Af Af) ?_;rintro v8 hp8;replace hp8:=iN hp8;refine px 9 rfl (Av (y:=l[n]) Ab hp8 Aa) ?_;rintro v9 ⟨c9,rfl,hc9⟩;refine po 10 rfl ?_;intro K hK;refine Sl.guard_yes rfl ?_;refine sc (cB w hst c3 (Rep.mono hSS hc3) c9 (Rep.mono hSS hc9)) ?_;clear hst;rintro v10 w ⟨rfl,hst⟩;refine pn hK ?_;clear hK K;refine pd 11 rfl ?_;refine Az kr ?_;repeat' (first|(apply gK ();go_step)|fail)
    go_roundw
    case rel=>exact ⟨n,by omega,by go_num,HN,hst⟩
    case measure=>simp [intOf]<;>omega
   ·obtain rfl:n+1=at0:=by have:=HA.out;rw [HD.out,if_neg hk] at this;exact this
    rw [decide_eq_false hk] at cB;clear hk HD HA;repeat' ((apply Z2 ());first|(apply gK ();go_step)|fail)
    refine AN hst kr ?_;clear hst;intro w hst;have hSS:=Bk hst;(try refine nY ?_);refine pd 0 rfl ?_;refine pt 1 rfl (FD rfl rfl hz) ?_;refine pd 2 rfl ?_;refine px 3 rfl (Av (y:=p) Ab hpp Aa) ?_;rintro v3 ⟨c3,rfl,hc3⟩;refine pd 4 rfl ?_;refine pd 5 rfl ?_;refine pt 6 rfl (C3 rfl rfl ⟨by omega,by omega⟩) ?_;refine pt 7 rfl (OX rfl rfl hmx) ?_;refine px 8 rfl (Ao Ab hl1 rfl Aa Aa Af Af) ?_;rintro v8 hp8;replace hp8:=iN hp8;refine px 9 rfl (Av (y:=l[n]) Ab hp8 Aa) ?_;rintro v9 ⟨c9,rfl,hc9⟩;refine po 10 rfl ?_;intro K hK;refine Sl.guard_yes rfl ?_;refine sc (cB w hst c3 (Rep.mono hSS hc3) c9 (Rep.mono hSS hc9)) ?_;clear hst;rintro v10 w ⟨rfl,hst⟩;refine pn hK ?_;clear hK K;refine pd 11 rfl ?_;refine Az kr ?_;repeat' ((apply Z4 ());first|(apply gK ();go_step)|fail)
    refine AN hst kr ?_;clear hst;intro w hst;have hSS:=Bk hst;(try refine nY ?_);refine pd 1 rfl ?_;refine pd 2 rfl ?_;refine px 3 rfl (DF (a:=0) (b:=n+1) Ab hl1 Aa Aa (.inl ⟨rfl,rfl⟩) (.inr ⟨.i64,by simp [Ai,AX]⟩) (.inl rfl) (by omega) (by omega)) ?_;rintro v3 hv3;rw [show List.take (n+1 - 0) l=_ from HT.out] at hv3;refine px 5 rfl (Av (y:=p) Ab hpp Aa) ?_;rintro v5 ⟨c5,rfl,hc5⟩;have hc5x:=hc5;obtain ⟨s5,rfl,_,_,_,_⟩:=BF hc5x;clear hc5x;refine pd 8 rfl ?_;refine pd 9 rfl ?_;refine px 10 rfl (DF (a:=n+1) (b:=l.length) Ab hl1 Aa Aa (.inr ⟨.i64,by simp [Ai,AX]⟩) (.inl ⟨rfl,rfl⟩) (.inl rfl) (by omega) (by omega)) ?_;rintro v10 hv10;rw [HD2.out] at hv10;refine BQ 0 6 rfl rfl kr ?_ ?_;intro K hK;refine AA (vs:=[]) hst Aa Aa rfl rfl (by simp [Value.cells]) rfl (by omega) (by omega) ?_;clear hst;intro x0 w hst;(try replace hst:=nH hst);refine pn hK ?_;clear hK K;refine BQ 4 6 rfl rfl kr ?_ ?_;intro K hK;refine A2 hst Ab Ab SlIn.h (hv3.mono hSS) Aa Aa Aa (by omega) (by omega) (by decide) ?_;clear hst;intro x4 w d4 hd4 hst;have hone4:=Bh (k:=0) hst rfl;(try replace hst:=nH hst);refine pn hK ?_;clear hK K
    refine po 6 rfl ?_;intro K hK;refine AA (vs:=[.agg #[.int .i64 p.1,.int .i64 p.2.1,.int .i64 p.2.2.1,.slice s5.1 s5.2.1 s5.2.2]]) hst Aa Aa rfl rfl (by simp [Value.cells]) rfl (by omega) (by omega) ?_;clear hst;intro x6 w hst0;obtain ⟨S6,hS6,hst,hX6⟩:=St.freeze (α:=Pn) (xs:=[p]) hst0 (RL.one_mk (Rep.mono hSS hc5)) rfl;clear hst0;(try replace hst:=nH hst);replace hSS:=hSS.trans hS6;refine pn hK ?_;clear hK K;refine po 7 rfl ?_;intro K hK;refine A2 hst Ab Ab SlIn.h hX6 Aa Aa Aa (by omega) (by omega) (by decide) ?_;clear hst;intro x7 w d7 hd7 hst;have hone7:=Bh (k:=0) hst rfl;(try replace hst:=nH hst);refine pn hK ?_;clear hK K;refine po 11 rfl ?_;intro K hK;refine A2 hst Ab Ab SlIn.h (hv10.mono hSS) Aa Aa Aa (by omega) (by omega) (by decide) ?_;clear hst;intro x11 w d11 hd11 hst;have hone11:=Bh (k:=0) hst rfl;(try replace hst:=nH hst);refine pn hK ?_;clear hK K;refine pd 12 rfl ?_;refine Az kr ?_;rotate_left;intro K hK;refine AA (vs:=[.agg #[.int .i64 p.1,.int .i64 p.2.1,.int .i64 p.2.2.1,.slice s5.1 s5.2.1 s5.2.2]]) hst Aa Aa rfl rfl (by simp [Value.cells]) rfl (by omega) (by omega) ?_;clear hst;intro x6 w hst0;obtain ⟨S6,hS6,hst,hX6⟩:=St.freeze (α:=Pn) (xs:=[p]) hst0 (RL.one_mk (Rep.mono hSS hc5)) rfl;clear hst0;(try replace hst:=nH hst);replace hSS:=hSS.trans hS6;refine pn hK ?_;clear hK K
    refine po 4 rfl ?_;intro K hK;refine A2 hst Ab Ab SlIn.h (hv3.mono hSS) Aa Aa Aa (by omega) (by omega) (by decide) ?_;clear hst;intro x4 w d4 hd4 hst;have hone4:=Bh (k:=0) hst rfl;(try replace hst:=nH hst);refine pn hK ?_;clear hK K;refine po 7 rfl ?_;intro K hK;refine A2 hst Ab Ab SlIn.h hX6 Aa Aa Aa (by omega) (by omega) (by decide) ?_;clear hst;intro x7 w d7 hd7 hst;have hone7:=Bh (k:=0) hst rfl;(try replace hst:=nH hst);refine pn hK ?_;clear hK K;refine po 11 rfl ?_;intro K hK;refine A2 hst Ab Ab SlIn.h (hv10.mono hSS) Aa Aa Aa (by omega) (by omega) (by decide) ?_;clear hst;intro x11 w d11 hd11 hst;have hone11:=Bh (k:=0) hst rfl;(try replace hst:=nH hst);refine pn hK ?_;clear hK K;refine pd 12 rfl ?_;refine Az kr ?_;rotate_left;intro K hK;refine AA (vs:=[.agg #[.int .i64 p.1,.int .i64 p.2.1,.int .i64 p.2.2.1,.slice s5.1 s5.2.1 s5.2.2]]) hst Aa Aa rfl rfl (by simp [Value.cells]) rfl (by omega) (by omega) ?_;clear hst;intro x6 w hst0;obtain ⟨S6,hS6,hst,hX6⟩:=St.freeze (α:=Pn) (xs:=[p]) hst0 (RL.one_mk (Rep.mono hSS hc5)) rfl;clear hst0;(try replace hst:=nH hst);replace hSS:=hSS.trans hS6;refine pn hK ?_;clear hK K;refine po 0 rfl ?_;intro K hK;refine AA (vs:=[]) hst Aa Aa rfl rfl (by simp [Value.cells]) rfl (by omega) (by omega) ?_;clear hst;intro x0 w hst;(try replace hst:=nH hst);refine pn hK ?_;clear hK K
    refine po 4 rfl ?_;intro K hK;refine A2 hst Ab Ab SlIn.h (hv3.mono hSS) Aa Aa Aa (by omega) (by omega) (by decide) ?_;clear hst;intro x4 w d4 hd4 hst;have hone4:=Bh (k:=0) hst rfl;(try replace hst:=nH hst);refine pn hK ?_;clear hK K;refine po 7 rfl ?_;intro K hK;refine A2 hst Ab Ab SlIn.h hX6 Aa Aa Aa (by omega) (by omega) (by decide) ?_;clear hst;intro x7 w d7 hd7 hst;have hone7:=Bh (k:=0) hst rfl;(try replace hst:=nH hst);refine pn hK ?_;clear hK K;refine po 11 rfl ?_;intro K hK;refine A2 hst Ab Ab SlIn.h (hv10.mono hSS) Aa Aa Aa (by omega) (by omega) (by decide) ?_;clear hst;intro x11 w d11 hd11 hst;have hone11:=Bh (k:=0) hst rfl;(try replace hst:=nH hst);refine pn hK ?_;clear hK K;refine pd 12 rfl ?_;refine Az kr ?_;rotate_left
    all_goals
     apply ia ()
def GK (a:List Pn):List Pn→List Pn→Option (List Pn)
 | [],out=>some out
 | p::r,out=>if (A4 a (kP p)).any (fun n=>decide (n≠BM p))=true then none else GK a r (if A4 a (kP p)=[] then Dh kP out p else out)
theorem Uc (out:List Pn) (p:Pn):sortR kP (out++[p])=Dh kP (sortR kP out) p:=by unfold sortR;rw [List.foldl_append];rfl
theorem Sg (a:List Pn):∀ (b out:List Pn),GK a b (sortR kP out)=(Fn a b out).map (sortR kP)
 | [],out=>rfl
 | p::r,out=>by
  unfold GK Fn;by_cases h:(A4 a (kP p)).any (fun n=>decide (n≠BM p))=true
  ·rw [if_pos h,if_pos h];rfl
  ·rw [if_neg h,if_neg h];by_cases h2:A4 a (kP p)=[]
   ·rw [if_pos h2,if_pos h2,← Uc];exact Sg a r _
   ·rw [if_neg h2,if_neg h2];exact Sg a r _
def cv (x:Br):Option (List Pn)→Br×Int
 | none=>(D9,15)
 | some out=>((x.1,x.2.1,out,()),0)
theorem XC (x y:Br):Dp x y=if x.1=y.1∧x.2.1=y.2.1 then cv x (GK x.2.2.1 y.2.2.1 (x.2.2.1.foldl (Dh kP) [])) else (D9,15):=by
 unfold Dp;have e:=Sg x.2.2.1 y.2.2.1 x.2.2.1;have e2:x.2.2.1.foldl (Dh kP) []=sortR kP x.2.2.1:=rfl;rw [e2,e]
 cases Fn x.2.2.1 y.2.2.1 x.2.2.1<;>rfl
theorem Wq {a:List Pn} {j:Nat} (h:j < a.length) {k:Int×Int} (hk:kP a[j]=k):BM a[j]∈A4 a k:=by
 unfold A4;exact List.mem_map_of_mem (List.mem_filter.2 ⟨List.getElem_mem h,decide_eq_true hk⟩)
theorem TJ {a:List Pn} {j:Nat} (h:j < a.length) (k:Int×Int):A4 (a.take (j+1)) k=if kP a[j]=k then A4 (a.take j) k++[BM a[j]] else A4 (a.take j) k:=by
 rw [List.take_succ_eq_append_getElem h,DZ]
theorem Pr (l:List Pn) (p:Pn):(Dh kP l p).length=l.length+1:=by rw [(Kn kP l p).length_eq];simp
set_option maxRecDepth 20000 in
theorem K8 {S M} (w:World) (hst:St S M w) (va vb:Value) (a b:List Hd) (ha:RSl S va a) (hb:RSl S vb b) (hm:a.length≤1048576) :
  Ad Tryz.prog 32 [va,vb] w fun v w'=>v=.bool (decide (a=b))∧St S M w':=by
 unfold Ad;have oa:=Ia ha;have ob:=Ia hb;obtain ⟨R,hR⟩:∃ R,decide (a=b)=R:=⟨_,rfl⟩
 rw [hR];have HR:=Lib.hid hR;clear hR;by_cases hl:a.length=b.length
 ·have HL:=Lib.hid hl;have hbl:b.length≤1048576:=by omega
  have hz:(((a.length:Nat):Int) != ((b.length:Nat):Int))=false:=bne_eq_false_iff_eq.2 (by omega);have hle1:a.length≤b.length:=by omega
  clear hl;go_enter Tryz.func32,Tryz.ntmps32;repeat' (first|apply sK ()|(apply gK ();go_step)|apply sY ()|fail)
  go_loopw [5] (fun u5 wr=>∃ i:Nat,i≤a.length∧u5=.int .i64 (i:Int)∧Hid (a.take i=b.take i)∧St S M wr) (fun v _=>a.length - (intOf v).toNat)
  case atStart=>exact ⟨0,Nat.zero_le _,rfl,Lib.hid rfl,hst⟩
  case round =>
   clear hst;obtain ⟨i,hi,rfl,HT,hst⟩:=hrel;by_cases hlt:i < a.length
   ·have hltb:i < b.length:=by omega
    have ka:=oa _ (List.getElem_mem hlt);have kb:=ob _ (List.getElem_mem hltb);by_cases he:a[i]=b[i]
    ·have hdc:decide (a[i]=b[i])=true:=decide_eq_true he;have HN:Hid (a.take (i+1)=b.take (i+1)):=Lib.hid (by rw [List.take_succ_eq_append_getElem hlt,List.take_succ_eq_append_getElem hltb,HT.out,he]);clear he;repeat' ((apply Z6 ());first|(apply gK ();go_step)|apply sY ()|fail)
     refine AF hst kr ?_;clear hst;intro ops;(try refine nY ?_);refine td 0 rfl ?_;refine td 1 rfl ?_;refine tx 2 rfl (Ao Ab ha rfl Aa Aa Af Af) ?_;rintro v2 hp2;replace hp2:=iN hp2;refine tq 3 rfl (by exact Bp Ab Ak Aa Aa rfl) ?_;refine td 4 rfl ?_;refine td 5 rfl ?_;refine tx 6 rfl (Ao Ab hb rfl Aa Aa Af Af) ?_;rintro v6 hp6;replace hp6:=iN hp6;refine tq 7 rfl (by exact Bp Ab Ak Aa Aa rfl) ?_;refine tq 8 rfl (Dc rfl rfl (CS ka) (CS kb) Aa Aa Aa hdc) ?_;refine AK kr ?_;clear ops;intro w hst;repeat' (first|(apply gK ();go_step)|fail)
     apply VX ()
    ·have hdc:decide (a[i]=b[i])=false:=decide_eq_false he
     have HN:Hid (false=R):=Lib.hid (by
      rw [← HR.out]
      symm
      refine decide_eq_false fun e=>he ?_
      subst e;rfl)
     clear he;repeat' ((apply Z6 ());first|(apply gK ();go_step)|apply sY ()|fail)
     refine AF hst kr ?_;clear hst;intro ops;(try refine nY ?_);refine td 0 rfl ?_;refine td 1 rfl ?_;refine tx 2 rfl (Ao Ab ha rfl Aa Aa Af Af) ?_;rintro v2 hp2;replace hp2:=iN hp2;refine tq 3 rfl (by exact Bp Ab Ak Aa Aa rfl) ?_;refine td 4 rfl ?_;refine td 5 rfl ?_;refine tx 6 rfl (Ao Ab hb rfl Aa Aa Af Af) ?_;rintro v6 hp6;replace hp6:=iN hp6;apply g8 ()
   ·have HN:Hid (true=R):=Lib.hid (by
     have hll:=HL.out;have:=HT.out;rw [List.take_of_length_le (by omega),List.take_of_length_le (by omega)] at this;rw [← HR.out,decide_eq_true this])
    repeat' (first|(apply gK ();go_step)|apply sY ()|fail)
    go_ret;exact ⟨_,rfl,by rw [← HN.out];rfl,hst⟩
 ·have hz:(((a.length:Nat):Int) != ((b.length:Nat):Int))=true:=bne_iff_ne.2 (by omega);have HN:Hid (false=R):=Lib.hid (by rw [← HR.out];exact (decide_eq_false fun e=>hl (by rw [e])).symm);clear hl;go_enter Tryz.func32,Tryz.ntmps32;apply gD ()
theorem Pd (a:List Pn):∀ (b out r:List Pn),Fn a b out=some r→∀ p∈r,p∈out∨p∈b
 | [],out,r,h=>by cases h;exact fun p hp=>.inl hp
 | q::b,out,r,h=>by
  rw [Fn] at h;split at h
  ·cases h
  ·intro p hp;rcases Pd a b _ r h p hp with h1|h1
   ·split at h1
    ·rcases List.mem_append.1 h1 with h2|h2
     ·exact .inl h2
     ·exact .inr (List.mem_cons.2 (.inl (List.mem_singleton.1 h2)))
    ·exact .inl h1
   ·exact .inr (List.mem_cons_of_mem _ h1)
theorem Do {n:Int} (h : -1000≤n∧n≤1000):Au n:=by unfold Au;omega
theorem Oc:∀ (ps l:List Pn),(ps.foldl (Dh kP) l).Perm (l++ps)
 | [],l=>by simp
 | p::ps,l=>by
  refine (Oc ps _).trans ?_;have:=(Kn kP l p).append_right ps
  simpa using this
theorem R1 (ps:List Pn):(sortR kP ps).Perm ps:=by simpa [sortR] using Oc ps []
theorem UY (x y:Br):(Dp x y).1.2.1.length≤x.2.1.length∧(Dp x y).1.2.2.1.length≤x.2.2.1.length+y.2.2.1.length∧∀ p∈(Dp x y).1.2.2.1,p∈x.2.2.1∨p∈y.2.2.1:=by
 unfold Dp;by_cases h:x.1=y.1∧x.2.1=y.2.1
 ·rw [if_pos h]
  cases h2:Fn x.2.2.1 y.2.2.1 x.2.2.1 with
  | none=>exact ⟨by simp [D9],by simp [D9],fun p hp=>by simp [D9] at hp⟩
  | some r =>
   have hp:=R1 r;refine ⟨Nat.le_refl _,?_,fun p h3=>Pd _ _ _ _ h2 p (hp.mem_iff.1 h3)⟩;show (sortR kP r).length≤_;rw [hp.length_eq];exact Pe _ _ _ _ h2
 ·rw [if_neg h];exact ⟨by simp [D9],by simp [D9],fun p hp=>by simp [D9] at hp⟩
theorem Vk:∀ h∈[AE AY],Fo h∧h.2.2.1≤1000:=fun h hh=>by
 obtain rfl:=List.mem_singleton.1 hh;exact ⟨⟨rfl,Ch _ _,Do (by decide),Cm _,Cm _,Do (by decide)⟩,by decide⟩
theorem dp (t:Int) (ht : -1000≤t∧t≤1000):∀ p∈[F8 t],Au p.1∧Au p.2.1∧Au p.2.2.1∧p.2.2.2.1.length≤1048576:=fun p hp=>by
 obtain rfl:=List.mem_singleton.1 hp;exact ⟨Do (show -1000≤(0:Int)∧(0:Int)≤1000 by decide),Do (show -1000≤(0:Int)∧(0:Int)≤1000 by decide),Do ht,Nat.le_trans (Jw _ _) (by decide)⟩
theorem MC (t:Int) (ht : -1000≤t∧t≤1000):Nz (Ce t):=⟨Vk,dp t ht,by simp [Ce],by simp [Ce]⟩
theorem eD:Nz JQ:=⟨Vk,fun p hp=>by simp [JQ] at hp,by simp [JQ],by simp [JQ]⟩
theorem Vs:∀ e∈[AY],Nv e:=fun e he=>by
 obtain rfl:=List.mem_singleton.1 he;exact ⟨by decide,by decide,by decide⟩
theorem UO:∀ p∈[Ci],FP p:=fun p hp=>by
 obtain rfl:=List.mem_singleton.1 hp;exact ⟨by decide,by decide,by decide⟩
theorem aZ {S M} (w:World) (hst:St S M w) (vl:Value) (hl:RSl S vl ([(⟨KG⟩,[],())]:List Rn)) :
  Ad Tryz.prog 15 [vl] w fun v w'=>∃ S' sp sl,S.Le S'∧v=.tuple #[Ar sp,Ar sl]∧RSl S' (Ar sp) [Ci]∧RSl S' (Ar sl) [AY]∧St S' M w' :=
 (eM w hst vl _ hl (fun x hx=>List.mem_singleton.1 hx) (by decide)).mono fun v w' ⟨S',sp,sl,h,hv,hp,hg,k⟩=>by
  rw [Up] at hp hg;exact ⟨S',sp,sl,h,hv,hp,hg,k⟩
theorem ZT {S M} (w:World) (hst:St S M w) (hG:Bo S) (vl:Value) (hl:RSl S vl [AY]) (vr:Value) (hr:RSl S vr ([(0,0)]:List (Int×Int))) :
  Ad Tryz.prog 16 [Cu FN,vl,vr] w fun v w'=>∃ S' cs,S.Le S'∧v=.tuple #[.agg cs.toArray,.int .i64 0]∧Rep.R S' cs (Ce 2)∧St S' M w' :=
 (dE w hst hG FN rfl vl _ hl (by decide) Vs vr _ hr (by decide)).mono fun v w' ⟨S',hS,hk,h⟩=>by
  rw [ga] at h;obtain ⟨cs,h1,h2⟩:=h;exact ⟨S',cs,hS,h1,h2,hk⟩
theorem aG {S M} (w:World) (hst:St S M w) (hG:Bo S) (r:Rg) (hr:Dn FN [AE AY]=r) (vl:Value) (hl:RSl S vl [AY]) :
  Ad Tryz.prog 20 [Cu FN,vl] w fun v w'=>v=K9 r∧St S M w':=by
 rw [← hr,show [AE AY]=[AY].map AE from rfl,W9];exact eA w hst hG FN rfl vl _ hl (by decide) Vs
theorem XL {S M} (w:World) (hst:St S M w) (hG:Bo S) (cs:List Value) (hR:Rep.R S cs (Ce 2)) (vp:Value) (hp:RSl S vp [Ci]) :
  Ad Tryz.prog 18 [.agg cs.toArray,vp] w fun v w'=>∃ S' so,S.Le S'∧v=.tuple #[Ar so,.int .i64 0]∧RSl S' (Ar so) ([[2,0]]:List (List Int))∧St S' M w' :=
 (Rh w hst hG cs _ hR (MC 2 (by decide)) (by simp [Ce]) (by simp [Ce]) vp _ hp UO).mono fun v w' ⟨S',so,h,hv,hl,k⟩=>by
  rw [lc] at hv hl;exact ⟨S',so,h,hv,hl,k⟩
theorem XM {S M} (w:World) (hst:St S M w) (hG:Bo S) (cs:List Value) (hR:Rep.R S cs JQ) (vp:Value) (hp:RSl S vp [Ci]) :
  Ad Tryz.prog 18 [.agg cs.toArray,vp] w fun v w'=>∃ S' so,S.Le S'∧v=.tuple #[Ar so,.int .i64 0]∧RSl S' (Ar so) ([[-1,-1]]:List (List Int))∧St S' M w' :=
 (Rh w hst hG cs _ hR eD (by simp [JQ]) (by simp [JQ]) vp _ hp UO).mono fun v w' ⟨S',so,h,hv,hl,k⟩=>by
  rw [ld] at hv hl;exact ⟨S',so,h,hv,hl,k⟩
theorem dc {S M} (w:World) (hst:St S M w) (cs:List Value) (hR:Rep.R S cs (Ce 2)) (vk:Value) (hk:RSl S vk ([]:List (Int×Int))) :
  Ad Tryz.prog 13 [.agg cs.toArray,vk] w (KZ S M JQ):=by
 rw [← jb];exact LB w hst cs _ hR vk _ hk (by simp [Ce]) (by decide)
theorem db {S M} (w:World) (hst:St S M w) (cs:List Value) (hR:Rep.R S cs (Ce 2)) (vk:Value) (hk:RSl S vk ([(0,0)]:List (Int×Int))) :
  Ad Tryz.prog 13 [.agg cs.toArray,vk] w (KZ S M (Ce 2)):=by
 rw [show KZ S M (Ce 2)=KZ S M (H3 (Ce 2) [(0,0)]) by rw [ja]];exact LB w hst cs _ hR vk _ hk (by simp [Ce]) (by decide)
theorem XD {S M} (w:World) (hst:St S M w) (c1:List Value) (h1:Rep.R S c1 (Ce 2)) (c2:List Value) (h2:Rep.R S c2 (Ce 1)) :
  Ad Tryz.prog 10 [.agg c1.toArray,.agg c2.toArray] w fun v w'=>∃ S' cs,S.Le S'∧v=.tuple #[.agg cs.toArray,.int .i64 15]∧Rep.R S' cs D9∧St S' M w' :=
 (PL w hst c1 _ h1 c2 _ h2 (by simp [Ce]) (by simp [Ce]) (by simp [Ce])).mono fun v w' ⟨S',cs,h,hv,hR,k⟩=>by
  rw [k8] at hv hR;exact ⟨S',cs,h,hv,hR,k⟩
theorem Za {S M} (w:World) (hst:St S M w) (hG:Bo S) (r:Rg) (hr:Dn FN [AE AY]=r) (ok:Er r) (cs:List Value) (hR:Rep.R S cs (Ce 2)) :
  Ad Tryz.prog 19 [.agg cs.toArray,K9 r] w fun v w'=>v=.int .i64 0∧St S M w':=by
 have:=Kw w hst hG cs _ hR (MC 2 (by decide)) r ok;rwa [fp r hr] at this
theorem Y9 {S M} (w:World) (hst:St S M w) (hG:Bo S) (r:Rg) (hr:Dn FN [AE AY]≠r) (ok:Er r) (cs:List Value) (hR:Rep.R S cs (Ce 2)) :
  Ad Tryz.prog 19 [.agg cs.toArray,K9 r] w fun v w'=>v=.int .i64 16∧St S M w':=by
 have:=Kw w hst hG cs _ hR (MC 2 (by decide)) r ok;rwa [fo r hr] at this
theorem Y8 {S M} (w:World) (hst:St S M w) (hG:Bo S) (r:Rg) (ok:Er r) (cs:List Value) (hR:Rep.R S cs (Ce 1)) :
  Ad Tryz.prog 19 [.agg cs.toArray,K9 r] w fun v w'=>v=.int .i64 16∧St S M w':=by
 have:=Kw w hst hG cs _ hR (MC 1 (by decide)) r ok;rwa [fm r] at this
theorem QQ {S M} (w:World) (hst:St S M w) (va vb:Value) (a b:Int) (ha:RSl S va ([[a,b]]:List (List Int))) (hb:RSl S vb ([[a,b]]:List (List Int))) :
  Ad Tryz.prog 21 [va,vb] w fun v w'=>v=.bool true∧St S M w' :=
 Qf w hst va vb _ ha hb (by simp) fun p hp=>by rw [List.mem_singleton.1 hp];simp
theorem UB {S:Ac}:RL S [.int .i64 0,.int .i64 0] ([(0,0)]:List (Int×Int)):=RL.one_mk ⟨by decide,⟨rfl,Do (by decide)⟩,⟨rfl,Do (by decide)⟩⟩
theorem eE {S:Ac} {cl:List Value} {hs:List Hd} {ps:List Pn} (h:Rep.R S cl ((FN,hs,ps,()):Br)):∃ ua un uc pa pn pc,cl=Fw 9 0 0 0 0 0 0 0 0 0 0 0 0 0 0 0 (.slice ua un uc) (.slice pa pn pc)∧RSl S (.slice ua un uc) hs∧RSl S (.slice pa pn pc) ps:=Vt h
theorem aN {S:Ac} {u p:Value} {hs:List Hd} {ps:List Pn} (h:RSl S u hs) (k:RSl S p ps):Rep.R S (Fw 9 0 0 0 0 0 0 0 0 0 0 0 0 0 0 0 u p) ((FN,hs,ps,()):Br) :=
 Ay (Bi (d:=FN) rfl) (Ay (cs:=[_]) ⟨_,rfl,h⟩ (Ay (cs:=[_]) ⟨_,rfl,k⟩ Cf))
theorem Zx {S:Ac} {c:List Value} (h:RL S c [F8 2]):RL S (c.take 2++[.int .i64 1]++c.drop 3) [F8 1]:=by
 have hl:c.length=4:=h.1
 match c,hl with
 | [x0,x1,x2,x3],_ =>
  have h0:Rep.R S [x0,x1,x2,x3] (F8 2):=h.2 0 _ rfl;obtain ⟨_,a0,_,a1,_,a2,_,a3,a4⟩:=h0;exact RL.one_mk (S:=S) (cs:=[x0,x1,.int .i64 1,x3]) (Ay (cs:=[x0]) a0 (Ay (cs:=[x1]) a1 (Ay (show Rep.R S [.int .i64 1] (1:Int) from ⟨rfl,Do (by decide)⟩) (Ay (cs:=[x3]) a3 Cf))))
end Go.Proofs.YtmmbidoldegemaaGreatDoor
