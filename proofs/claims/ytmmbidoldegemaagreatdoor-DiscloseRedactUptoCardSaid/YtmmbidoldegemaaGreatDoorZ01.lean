/- Part 2 of a proof; no conditions. -/
import Derived.RangeFuncNested
import Derived.RangeFuncBound
import Derived.RangeFuncCalls
import Derived.RangeFuncLeaves
import Derived.Deep.RegionHeld3
import Derived.RangeFuncRecord
import Derived.OrdersIn
import Derived.DeepKeys3
import Derived.Recover
import Derived.Lib.SliceRun
import Derived.Laws.Strings2
import Derived.WalkKit
import Derived.ProofKit
import Derived.OpenShut
import Derived.JoinedCond
import Derived.Carry
import Derived.Test.YtmmbidoldegemaaGreatDoorZ00
set_option linter.all false
set_option maxRecDepth 8000
set_option maxHeartbeats 8000000
namespace Go.Sl
open Go.RowKit
variable {P:Program}
def Wd (F:Fence):Prop:=F=Fence.wide∨∃ r,F=Fence.wide.inRound r
theorem Wd.fn {F} (h:Wd F) (f):F.fn f:=by rcases h with rfl|⟨r,rfl⟩<;>trivial
theorem Wd.depth {F} (h:Wd F):F.depth=none:=by rcases h with rfl|⟨r,rfl⟩<;>rfl
theorem Wd.calls {F} (h:Wd F) {n f args w} {R:Ending→World→Prop} (c:Calls P f args w R):CallsIn F n P f args w R:=by
 rcases h with rfl|⟨r,rfl⟩
 ·exact callsIn_wide.2 c
 ·exact CallsIn.inRound r (callsIn_wide.2 c)
theorem Wd.fenced {F} (h:Wd F) {m m'} (s:Steps P m m'):StepsIn (Machine.fenced P F) P m m':=by
 rcases h with rfl|⟨r,rfl⟩
 ·exact stepsIn_wide.2 s
 ·rw [fenced_inRound];exact stepsIn_wide.2 s
theorem Wd.rows {F} (h:Wd F) {n row args w} {R:Value→World→Prop} (c:Rows P row args w R):RowsIn F n P row args w R :=
 fun c0 cs _=>let ⟨v,w',r,s⟩:=c c0 cs;⟨v,w',r,h.fenced s⟩
def Ei (l:List Oper):Bool:=l.all fun o=>match o.op with|.defer _=>false|_=>true
theorem V1 {F} (hF:Wd F) {n} {o:Oper} {a w} {K K':Act→World→Prop} {Q Q':Exit→Act→World→Prop} (hd:∀ c,o.op≠.defer c) (G:∀ a w,K a w→K' a w) (hQ:¬ LetsOut Q) (hQQ:∀ c a w,Q (.panic c) a w→Q' (.panic c) a w) (h:o.wp P a w K Q):o.wpIn F n P a w K' Q':=by
 refine ⟨fun f _=>hF.fn f,?_⟩;rw [Oper.semAt_eq _ _ _ hd];unfold Oper.wp at h;have hn:F.depth.isSome=true→1≤n:=by rw [hF.depth];intro h;cases h
 generalize (execOp a.eval o).run P w=r at h ⊢
 cases r with
 | ok x w' =>
  cases x with
  | value v=>exact G _ _ h
  | skip=>exact G _ _ h
  | defer d=>exact G _ _ h
  | enter f args =>
   refine ⟨hn,hF.calls (Calls.mono h fun e w'' he=>?_)⟩
   cases e with
   | returned v=>exact G _ _ he
   | panicked c=>exact hQQ _ _ _ he
   | outgrown=>exact (hQ he).elim
  | row row args=>exact ⟨hn,(hF.rows h).mono fun v w'' he=>G _ _ he⟩
  | _=>exact h.elim
 | halt x w' =>
  cases x with
  | panic v=>exact hQQ _ _ _ h
  | _=>exact h.elim
theorem K7 {F:Fence} (hF:Wd F) {n:Nat} {ops:Array Oper} {Q:Exit→Act→World→Prop} (hQ:¬ LetsOut Q) {rest:List Oper} {K:Act→World→Prop} (G:∀ a w,K a w→wpListIn F n P ops Q rest a w) :
  ∀ (pre:List Oper),Ei pre=true→∀ (a:Act) (w:World),wpList P ops (Exit.then K Q) pre a w→wpListIn F n P ops Q (pre++rest) a w
 | [],_,a,w,h=>G a w h
 | o::pre,hd,a,w,h=>by
  simp only [Ei,List.all_cons,Bool.and_eq_true] at hd;have hd1:∀ c,o.op≠.defer c:=fun c e=>by rw [e] at hd;simp at hd
  have hLQ:¬ LetsOut (Exit.then K Q):=fun ⟨a,w,h⟩=>hQ ⟨a,w,h⟩
  rw [List.cons_append];unfold wpListIn;unfold wpList at h;by_cases hw:Region.wanted o (yielded ops a.tmps)=true
  ·rw [if_pos hw] at h ⊢;rcases h with h|⟨_,h⟩
   ·exact V1 hF hd1 (fun a w h=>K7 hF hQ G pre hd.2 a w h) hLQ (fun c a w h=>h) h
   ·exact (hLQ h).elim
  ·rw [if_neg hw] at h ⊢;exact ⟨fun f _=>hF.fn f,K7 hF hQ G pre hd.2 _ _ h⟩
theorem Fw {F} (hF:Wd F) {n id l} {Q:Exit→Act→World→Prop} (hQ:¬ LetsOut Q) {a w} (hd:Ei l=true) (h:wpList P l.toArray Q l a w):(Code.region id l.toArray false).wpIn F n P Q a w:=by
 refine wpIn_region_lit ?_
 have:=K7 (n:=n) (rest:=[]) (K:=Q .normal) hF hQ (fun a w h=>h) l hd a w (ops:=l.toArray) (by
  have e:Exit.then (Q .normal) Q=Q:=by funext e a w;cases e<;>rfl
  rw [e];exact h)
 rwa [List.append_nil] at this
theorem Ps {F:Fence} (hF:Wd F) {n:Nat} {ops:Array Oper} {Q:Exit→Act→World→Prop} (hQ:¬ LetsOut Q) (hd:Ei ops.toList=true) :
  ∀ (l:List Nat) (a:Act) (w:World),wpOps P ops Q l a w→wpOpsIn F n P ops Q l a w
 | [],a,w,h=>h
 | i::l,a,w,h=>by
  unfold wpOpsIn;unfold wpOps at h
  cases ho:ops[i]? with
  | none=>rw [ho] at h;exact Ps hF hQ hd l a w h
  | some o =>
   rw [ho] at h
   have hd1:∀ c,o.op≠.defer c:=fun c e=>by
    have:=List.all_eq_true.1 hd o (by rw [Array.mem_toList_iff];exact Array.mem_of_getElem? ho);simp only [e] at this;exact absurd this (by decide)
   simp only at h ⊢;by_cases hw:Region.wanted o (yielded ops a.tmps)=true
   ·rw [if_pos hw] at h ⊢;rcases h with h|⟨_,h⟩
    ·exact V1 hF hd1 (fun a w h=>Ps hF hQ hd l a w h) hQ (fun c a w h=>h) h
    ·exact (hQ h).elim
   ·rw [if_neg hw] at h ⊢;exact ⟨fun f _=>hF.fn f,Ps hF hQ hd l _ _ h⟩
theorem dN {F} (hF:Wd F) {n id ops} {Q:Exit→Act→World→Prop} (hQ:¬ LetsOut Q) {a w} (hd:Ei ops.toList=true) (hm:P.follows .mixedOrders=true) (h:wpAny P .any ops Q ops.size (Array.replicate ops.size false) a { w with drawn:=w.drawn+1 }):(Code.region id ops true).wpIn F n P Q a w:=by
 refine wpIn_region_draw fun t=>Ps hF hQ hd _ _ _ ?_
 simp only [Region.schedule,hm,Bool.true_or,if_true];exact wpAny_sound ops.size t _ a _ h
section
variable {P:Program} {lo:List Oper} {Q:Exit→Act→World→Prop} {K:Act→World→Prop} {S:Ad} {M:List J} {l:List Value} {D:List Deferred} {w:World} {bs:List Bool} {f:Nat} {o:Oper} {v:Value}
theorem KF {a k ops} (ho:ops[k]? = some o) (h:wpList P ops (Exit.then K Q) [o] a w):wpOp P ops Q k K a w:=by
 unfold wpOp;rw [ho];exact h
end
theorem St.suf {S S' M M' w} (hS:S.Le S') (hM:Suf M M') (h:St S' M' w):St S M w:=by
 obtain ⟨Nqq,rfl⟩:=hM.h;clear hM
 induction Nqq with
 | nil=>exact St.weaken hS h
 | cons c Nqq ih=>exact ih h.drop
theorem Suf.refl (M):Suf M M:=⟨[],rfl⟩
theorem Suf.trans {A B C} (h:Suf A B) (k:Suf B C):Suf A C:=by
 obtain ⟨Nqq,rfl⟩:=h.h;obtain ⟨N',rfl⟩:=k.h;exact ⟨N'++Nqq,by rw [List.append_assoc]⟩
theorem Suf.cons {A B c} (h:Suf A B):Suf A (c::B):=by
 obtain ⟨Nqq,rfl⟩:=h.h;exact ⟨c::Nqq,rfl⟩
theorem Suf.slIn {M M' v k z n T c} (i:Suf M M') (h:SlIn M v k T z n c):∃ k',SlIn M' v k' T z n c:=by
 obtain ⟨Nqq,rfl⟩:=i.h;exact ⟨Nqq.length+k,⟨by rw [List.getElem?_append_right (by omega),Nat.add_sub_cancel_left];exact h.h⟩⟩
def D7 (o:Oper):Bool:=match o.op with|.store ..=>true|.call c=>(match c.callee with|.builtin .append=>true|_=>false)|_=>false
section
variable {P:Program} {lo:List Oper} {Q:Exit→Act→World→Prop}
def BC (P:Program) (lo:List Oper) (Q:Exit→Act→World→Prop):Nat→Ad→List J→List Bool→List Value→List Deferred→Prop
 | 0,S,M,bs,l,D=>Region.ready .any lo.toArray bs.toArray=[]∧∀ w,St S M w→Q .normal ⟨l.toArray,D⟩ w
 | f+1,S,M,bs,l,D=>(Region.ready .any lo.toArray bs.toArray=[]→∀ w,St S M w→Q .normal ⟨l.toArray,D⟩ w) ∧
  ∀ j∈Region.ready .any lo.toArray bs.toArray,∀ w,St S M w →
   wpOp P lo.toArray (NoPanic Q) j (fun a' w'=>∃ S' M' l',((∃ o,lo[j]? = some o∧D7 o=true)∨(S.Le S'∧Suf M M'))∧a'=⟨l'.toArray,D⟩∧St S' M' w'∧BC P lo Q f S' M' (bs.set j true) l' D) ⟨l.toArray,D⟩ w
theorem EE (bs:List Bool) (j):bs.toArray.setIfInBounds j true=(bs.set j true).toArray:=by simp
theorem MJ:∀ (f:Nat) (S:Ad) (M:List J) (bs:List Bool) (l:List Value) (D:List Deferred) (w:World),BC P lo Q f S M bs l D→St S M w →
  wpAny P .any lo.toArray (NoPanic Q) f bs.toArray ⟨l.toArray,D⟩ w
 | 0,S,M,bs,l,D,w,h,V=>⟨h.1,NoPanic.normal (h.2 w V)⟩
 | f+1,S,M,bs,l,D,w,h,V=>by
  refine ⟨fun e=>NoPanic.normal (h.1 e w V),fun j hj=>wpOp_mono (fun a' w' h'=>?_) (h.2 j hj w V)⟩;obtain ⟨S',M',l',_,rfl,h1,h2⟩:=h';rw [EE];exact MJ f S' M' _ l' D w' h2 h1
theorem AD {S M l D w id} (V:St S M w) (hm:P.follows .mixedOrders=true) (h:let ops:=lo;BC P ops Q ops.length S M (List.replicate ops.length false) l D):
  (Code.region id lo.toArray true).wp P Q ⟨l.toArray,D⟩ w:=by
 refine wp_region_noPanic (wp_region_any hm ?_);have:=MJ _ _ _ _ _ _ _ h V.drew
 simpa using this
theorem OB {i j:Nat} {oi oj v} (hj:lo.toArray[j]? = some oj) (hap:oi.apart lo.toArray oj=true) (hsi:∀ cs b,oi.op≠.select cs b) (hsj:∀ cs b,oj.op≠.select cs b) {K:Act→World→Prop} {a w} (h:wpOp P lo.toArray (NoPanic Q) j K (a.put oi.dst v) w):
  wpOp P lo.toArray (NoPanic Q) j (fun a' w'=>(execOp a'.eval oi=execOp a.eval oi∧Region.wanted oi (yielded lo.toArray a'.tmps)=Region.wanted oi (yielded lo.toArray a.tmps))∧K (a'.put oi.dst v) w') a w:=by
 obtain ⟨h1,h2,h3⟩:=Oper.apart_spec hap
 have keep:∀ (a:Act) (u:Value),execOp (a.put oj.dst u).eval oi=execOp a.eval oi∧Region.wanted oi (yielded lo.toArray (a.put oj.dst u).tmps)=Region.wanted oi (yielded lo.toArray a.tmps) :=
  fun a u=>⟨execOp_put oi hsi a oj.dst u h3,wanted_put oi a oj.dst u h3⟩
 unfold wpOp at *;simp only [hj] at *;rw [wanted_put oj a oi.dst v h1] at h;split
 ·rename_i hw;simp only [hw,if_true] at h;rcases h with h|⟨_,a0,w0,hf⟩
  case inr=>exact .inr ⟨by rename_i hasks;unfold Oper.asks at *;rw [execOp_put oj hsj a oi.dst v h1] at hasks;exact hasks,a0,w0,hf⟩
  refine .inl ?_;unfold Oper.wp at *;rw [execOp_put oj hsj a oi.dst v h1] at h;generalize (execOp a.eval oj).run P w=r at *
  cases r with
  | ok n w' =>
   cases n<;>simp only [Oper.upon] at h ⊢
   case value u=>exact ⟨keep a u,by rw [← Act.put_comm a v u h2];exact h⟩
   case skip=>exact ⟨keep a _,by rw [← Act.put_comm a v undef h2];exact h⟩
   case defer d =>
    have hk:=keep { a with defers:=d::a.defers } undef;refine ⟨hk,?_⟩;rw [← Act.put_comm _ v undef h2,← Act.put_defers];exact h
   case enter f args =>
    refine Calls.mono h fun e w'' he=>?_
    cases e with
    | returned u=>exact ⟨keep a u,by rw [← Act.put_comm a v u h2];exact he⟩
    | panicked c=>exact he
    | outgrown=>exact he
   case row row args=>exact Rows.mono h fun u w'' he=>⟨keep a u,by rw [← Act.put_comm a v u h2];exact he⟩
  | halt x w' =>
   cases x<;>simp only [Oper.upon] at h ⊢
   case panic u=>exact h
 ·rename_i hw;simp only [hw] at h;exact ⟨keep a _,by rw [← Act.put_comm a v undef h2];exact h⟩
def Lu (lo:List Oper):Nat→Nat→Nat→Bool
 | 0,_,_=>false
 | f+1,j,i=>match lo[j]? with|some o=>o.after.any (fun e=>Region.binds .any e && (e.on == i || Lu lo f e.on i))|none=>false
def SI (lo:List Oper) (bs:List Bool):Bool :=
 (List.range lo.length).all fun k=>!bs.getD k false || match lo[k]? with|some o=>o.after.all (fun e=>!Region.binds .any e || bs.getD e.on false)|none=>true
def Tf (lo:List Oper) (bs:List Bool) (i:Nat):Bool :=
 (List.range lo.length).all fun k=>bs.getD k true || match lo[k]? with|some o=>!D7 o || Lu lo lo.length k i|none=>true
def Fc (lo:List Oper) (bs:List Bool) (i:Nat):Bool :=
 Region.noSelect lo.toArray && Region.free .any lo.toArray bs.toArray i && (Region.ready .any lo.toArray bs.toArray).contains i && Tf lo bs i && SI lo bs
def Ra (lo:List Oper) (bs:List Bool):Prop:=∀ k o,lo[k]? = some o→bs.toArray.getD k false=true→∀ e∈o.after,Region.binds .any e=true→bs.toArray.getD e.on false=true
theorem QX {bs} (h:SI lo bs=true):Ra lo bs:=by
 intro k o ho hk e he hb;have hlt:k < lo.length:=(List.getElem?_eq_some_iff.1 ho).1;have:=List.all_eq_true.1 h k (List.mem_range.2 hlt);have hk':bs.getD k false=true:=by simpa using hk
 rw [hk',ho] at this;simp only [Bool.not_true,Bool.false_or] at this;obtain ⟨x,hx,rfl⟩:=Array.getElem_of_mem he;have:=Array.all_eq_true.1 this x hx;rw [hb] at this
 simpa using this
theorem KH {bs:List Bool} (hc:Ra lo bs):∀ (f j i:Nat) (o:Oper),lo[j]? = some o→(∀ e∈o.after,Region.binds .any e=true→bs.toArray.getD e.on false=true)→Lu lo f j i=true→bs.toArray.getD i false=true
 | 0,_,_,_,_,_,h=>by cases h
 | f+1,j,i,o,ho,hall,h=>by
  rw [Lu,ho] at h;simp only [Array.any_eq_true,Bool.and_eq_true,Bool.or_eq_true,beq_iff_eq] at h;obtain ⟨x,hx,hb,h⟩:=h;have hl:=hall _ (Array.getElem_mem hx) hb;rcases h with rfl|h
  ·exact hl
  ·cases ho':lo[(o.after[x]).on]? with
   | none =>
    exfalso
    cases f with
    | zero=>cases h
    | succ f=>rw [Lu,ho'] at h;cases h
   | some o'=>exact KH hc f _ i o' ho' (fun e he hb=>hc _ o' ho' hl e he hb) h
def YX (P:Program) (S:Ad) (M:List J) (l:List Value) (o:Oper) (v:Value):Prop :=
 ∀ S' M' w,S.Le S'→Suf M M'→St S' M' w→Oper.quietUpon P (St S' M') w v ((execOp (Ai l) o).run P w)
theorem YX.ext {S S' M M' l o v} (h:YX P S M l o v) (hS:S.Le S') (hM:Suf M M'):YX P S' M' l o v :=
 fun S2 M2 w h1 h2 h3=>h S2 M2 w (hS.trans h1) (hM.trans h2) h3
theorem E4 (l D d v):(⟨l.toArray,D⟩:Act).put d v=⟨(Bq l d v).toArray,D⟩:=by cases d<;>simp [Act.put,Bq]
theorem MQ {S M i o v l D w} {K:Act→World→Prop} (hi:lo.toArray[i]? = some o) (hw:Region.wanted o (yielded lo.toArray l.toArray)=true) (V:St S M w) (hy:Oper.quietUpon P (St S M) w v ((execOp (Ai l) o).run P w)) (h:∀ w',St S M w'→K ⟨(Bq l o.dst v).toArray,D⟩ w'):
  wpOp P lo.toArray (NoPanic Q) i K ⟨l.toArray,D⟩ w:=by
 unfold wpOp;simp only [hi,hw,if_true];refine .inl ?_;unfold Oper.wp;rw [Di];generalize (execOp (Ai l) o).run P w=r at hy ⊢
 cases r with
 | ok n w' =>
  cases n<;>simp only [Oper.quietUpon] at hy<;>simp only [Oper.upon]
  case value u =>
   obtain ⟨e1,e2⟩:=hy;rw [e1,e2,E4];exact h _ V
  case skip =>
   obtain ⟨e1,e2⟩:=hy;rw [e1,← e2,E4];exact h _ V
  case enter f args =>
   obtain ⟨e1,e2⟩:=hy;rw [e1];refine Calls.mono e2 fun e w'' he=>?_
   obtain ⟨rfl,hC⟩:=he;show K _ w'';rw [E4];exact h _ hC
 | halt x w'=>simp only [Oper.quietUpon] at hy
theorem eF {i oi v D} (hi:lo[i]? = some oi) (hsel:Region.noSelect lo.toArray=true) (hns:D7 oi=false):
  ∀ (f:Nat) (S:Ad) (M:List J) (bs:List Bool) (l:List Value),
   (∀ j oj,lo[j]? = some oj→j≠i→bs.toArray.getD j true=false→(∀ e∈oj.after,Region.binds .any e=true→e.on≠i)→oi.apart lo.toArray oj=true) →
   (∀ j oj,lo[j]? = some oj→bs.toArray.getD j true=false→D7 oj=true→∃ g,Lu lo g j i=true)→Ra lo bs →
   i∈Region.ready .any lo.toArray bs.toArray→(Region.wanted oi (yielded lo.toArray l.toArray)=true∧YX P S M l oi v∨Region.wanted oi (yielded lo.toArray l.toArray)=false∧v=undef) →
   BC P lo Q f S M (bs.set i true) (Bq l oi.dst v) D→BC P lo Q (f+1) S M bs l D:=by
 have hi':lo.toArray[i]? = some oi:=by simpa using hi
 have first:∀ {f:Nat} {S:Ad} {M:List J} {bs:List Bool} {l:List Value} {w:World},(Region.wanted oi (yielded lo.toArray l.toArray)=true∧YX P S M l oi v∨Region.wanted oi (yielded lo.toArray l.toArray)=false∧v=undef)→St S M w →
   BC P lo Q f S M (bs.set i true) (Bq l oi.dst v) D→wpOp P lo.toArray (NoPanic Q) i (fun a' w'=>∃ S' M' l',((∃ o,lo[i]? = some o∧D7 o=true)∨(S.Le S'∧Suf M M'))∧a'=⟨l'.toArray,D⟩∧St S' M' w'∧BC P lo Q f S' M' (bs.set i true) l' D) ⟨l.toArray,D⟩ w:=by
  intro f S M bs l w hy V H;rcases hy with ⟨hw,hy⟩|⟨hw,rfl⟩
  ·exact MQ hi' hw V (hy S M w (Ad.Le.refl S) (Suf.refl M) V) fun w' hw'=>⟨S,M,_,.inr ⟨Ad.Le.refl S,Suf.refl M⟩,rfl,hw',H⟩
  ·unfold wpOp;simp only [hi',hw,Bool.false_eq_true,if_false];exact ⟨S,M,_,.inr ⟨Ad.Le.refl S,Suf.refl M⟩,E4 l D oi.dst undef,V,H⟩
 intro f
 induction f with
 | zero =>
  intro S M bs l hfree hsw hcl hr hy H;refine ⟨fun e=>(by rw [e] at hr;cases hr),fun j hj w V=>?_⟩;by_cases hji:j=i
  ·subst hji;exact first hy V H
  ·have:=ready_mono hj hji;rw [EE,H.1] at this;cases this
 | succ f ih =>
  intro S M bs l hfree hsw hcl hr hy H;refine ⟨fun e=>(by rw [e] at hr;cases hr),fun j hj w V=>?_⟩;by_cases hji:j=i
  ·subst hji;exact first hy V H
  ·have hj2:j∈Region.ready .any lo.toArray (bs.set i true).toArray:=by rw [← EE];exact ready_mono hj hji
   have h1:=H.2 j hj2 w V;obtain ⟨hjun,oj,hoj,hall⟩:=mem_ready.1 hj
   have hnot:∀ e∈oj.after,Region.binds .any e=true→e.on≠i:=fun e he hb heq=>by
    have h1:=hall e he hb;have h0:=(mem_ready.1 hr).1;rw [heq,getD_both h0] at h1;cases h1
   have hoj':lo[j]? = some oj:=by simpa using hoj
   have hnst:D7 oj=false:=by
    cases e:D7 oj with
    | false=>rfl
    | true =>
     obtain ⟨g,hg⟩:=hsw j oj hoj' hjun e;have h1:=KH hcl g j i oj hoj' hall hg;have h0:=(mem_ready.1 hr).1;rw [getD_both h0] at h1;cases h1
   rw [← E4] at h1;have h2:=OB (i:=i) hoj (hfree j oj hoj' hji hjun hnot) (fun cs b=>Region.noSelect_spec hsel i oi cs b hi') (fun cs b=>Region.noSelect_spec hsel j oj cs b hoj) h1;refine wpOp_mono (fun a' w' h3=>?_) h2;obtain ⟨⟨hc1,hc2⟩,S',M',l'',hex,hl,hst',hA⟩:=h3
   have hex':S.Le S'∧Suf M M':=by
    rcases hex with ⟨o,ho,hs⟩|hex
    ·rw [hoj'] at ho;cases ho;rw [hnst] at hs;cases hs
    ·exact hex
   obtain ⟨t,d⟩:=a'
   have hd:d=D:=by
    have:=congrArg Act.defers hl
    cases ho:oi.dst<;>simpa [Act.put,ho] using this
   subst hd;obtain ⟨l',rfl⟩:∃ l':List Value,t=l'.toArray:=⟨t.toList,by simp⟩
   rw [E4] at hl
   obtain rfl:Bq l' oi.dst v=l'':=by
    have:=congrArg (fun a=>a.tmps.toList) hl
    simpa using this
   refine ⟨S',M',l',.inr hex',rfl,hst',ih S' M' (bs.set j true) l' ?_ ?_ ?_ ?_ ?_ ?_⟩
   ·intro k ok hk hki hun hno;refine hfree k ok hk hki ?_ hno;rw [← EE] at hun;by_cases hjk:j=k
    ·subst hjk;exact hjun
    ·rwa [getD_set_ne true hjk] at hun
   ·intro k ok hk hun hs;refine hsw k ok hk ?_ hs;rw [← EE] at hun;by_cases hjk:j=k
    ·subst hjk;exact hjun
    ·rwa [getD_set_ne true hjk] at hun
   ·intro k ok hk hl e he hb;rw [← EE] at hl ⊢;by_cases hjk:j=k
    ·subst hjk;obtain rfl:oj=ok:=by rw [hoj'] at hk;cases hk;rfl
     exact getD_set_true (hall e he hb)
    ·rw [getD_set_ne false hjk] at hl;exact getD_set_true (hcl k ok hk hl e he hb)
   ·rw [← EE];exact ready_mono hr (Ne.symm hji)
   ·rw [Di,Di] at hc1;rcases hy with ⟨hw,hy⟩|⟨hw,hv⟩
    ·refine .inl ⟨hc2.trans hw,?_⟩;intro S2 M2 w2 hS2 hM2 hst2;rw [hc1];exact hy.ext hex'.1 hex'.2 S2 M2 w2 hS2 hM2 hst2
    ·exact .inr ⟨hc2.trans hw,hv⟩
   ·have e:=Array.setIfInBounds_comm (xs:=bs.toArray) (i:=i) (j:=j) true true (Ne.symm hji)
    have e':(bs.set i true).set j true=(bs.set j true).set i true:=by
     have:=congrArg Array.toList e
     simpa using this
    rw [← e'];exact hA
variable {S:Ad} {M:List J} {f:Nat} {bs:List Bool} {l:List Value} {D:List Deferred} {o:Oper} {v:Value}
theorem H9 {k:Nat} (ho:lo[k]? = some o) (hok:Fc lo bs k=true) (hns:D7 o=false) (hy:Region.wanted o (yielded lo.toArray l.toArray)=true∧YX P S M l o v∨Region.wanted o (yielded lo.toArray l.toArray)=false∧v=undef)
  (h:BC P lo Q f S M (bs.set k true) (Bq l o.dst v) D):BC P lo Q (f+1) S M bs l D:=by
 simp only [Fc,Bool.and_eq_true] at hok;obtain ⟨⟨⟨⟨h1,h2⟩,h3⟩,h4⟩,h5⟩:=hok;have ho':lo.toArray[k]? = some o:=by simpa using ho
 refine eF ho h1 hns f S M bs l (fun j oj hj=>Region.free_spec ho' h2 j oj (by simpa using hj)) (fun j oj hj hun hs=>?_) (QX h5) (by simpa using h3) hy h;have hlt:j < lo.length:=(List.getElem?_eq_some_iff.1 hj).1;have:=List.all_eq_true.1 h4 j (List.mem_range.2 hlt);have hun':bs.getD j true=false:=by simpa using hun
 rw [hun',hj] at this;simp only [Bool.false_or,hs,Bool.not_true] at this;exact ⟨_,this⟩
theorem Qt.suf {op S' M'} (h:Qt P l op S M v) (hS:S.Le S') (hM:Suf M M'):Qt P l op S' M' v:=fun d ty pos af w hw=>h d ty pos af w (hw.suf hS hM)
theorem YX.qt (hq:Qt P l o.op S M v) (hg:∀ w,(execOp (Ai l) o).run P w=(execOp (Ai l) ⟨o.dst,o.op,o.type,o.pos,o.after,none⟩).run P w:=by intro;rfl):YX P S M l o v:=fun S' M' w hS hM V=>by
 rw [hg,hq.suf hS hM o.dst o.type o.pos o.after w V];exact ⟨rfl,rfl⟩
theorem Te (k:Nat) (ho:lo[k]? = some o) (hok:Fc lo bs k=true) (hns:D7 o=false) (hw:Region.wanted o (yielded lo.toArray l.toArray)=true) (hq:Qt P l o.op S M v)
  (h:BC P lo Q f S M (bs.set k true) (Bq l o.dst v) D):BC P lo Q (f+1) S M bs l D:=H9 ho hok hns (.inl ⟨hw,YX.qt hq⟩) h
theorem Xw (h:∀ w,St S M w→BC P lo Q (f+1) S M bs l D):BC P lo Q (f+1) S M bs l D :=
 ⟨fun e w V=>(h w V).1 e w V,fun j hj w V=>(h w V).2 j hj w V⟩
theorem BN (k:Nat) {F:Value→Prop} (ho:lo[k]? = some o) (hok:Fc lo bs k=true) (hns:D7 o=false) (hw:Region.wanted o (yielded lo.toArray l.toArray)=true) (hq:∀ w,St S M w→∃ v,F v∧Qt P l o.op S M v)
  (h:∀ v,F v→BC P lo Q f S M (bs.set k true) (Bq l o.dst v) D):BC P lo Q (f+1) S M bs l D:=Xw fun w V=>let ⟨v,hv,q⟩:=hq w V;Te k ho hok hns hw q (h v hv)
theorem kY (k:Nat) (ho:lo[k]? = some o) (hok:Fc lo bs k=true) (hns:D7 o=false) (hw:Region.wanted o (yielded lo.toArray l.toArray)=false)
  (h:BC P lo Q f S M (bs.set k true) (Bq l o.dst undef) D):BC P lo Q (f+1) S M bs l D:=H9 ho hok hns (.inr ⟨hw,rfl⟩) h
theorem AQ (k:Nat) {fn:FuncId} {xs:List Operand} {ats:Array TypeId} {args:List Value} {d:Option Tmp} {ty:TypeId} {pos:String} {af:Array Edge} {g:Option (Nat×Bool)}
  (ho:lo[k]? = some ⟨d,.call { callee:=.value (.func fn),args:=xs.toArray,argTypes:=ats },ty,pos,af,g⟩) (hok:Fc lo bs k=true) (hw:Region.wanted ⟨d,.call { callee:=.value (.func fn),args:=xs.toArray,argTypes:=ats },ty,pos,af,g⟩ (yielded lo.toArray l.toArray)=true)
  (c:∀ S' M' w,S.Le S'→Suf M M'→St S' M' w→Ac P fn args w fun v' w'=>v'=v∧St S' M' w') (hb:Body P fn) (ha:xs.map (Ai l)=args)
  (h:BC P lo Q f S M (bs.set k true) (Bq l d v) D):BC P lo Q (f+1) S M bs l D:=by
 refine H9 ho hok rfl (.inl ⟨hw,fun S' M' w hS hM V=>?_⟩) h;subst ha
 have hr:(execOp (Ai l) ⟨d,.call { callee:=.value (.func fn),args:=xs.toArray,argTypes:=ats },ty,pos,af,g⟩).run P w=.ok (.enter fn (xs.map (Ai l)).toArray) w:=by
  have:=hb.enter (w:=w) (xs.map (Ai l)).toArray;simp only [execOp,resolve,Deferred.ofValue,Ai,Sem.run_bind,Sem.run_pure,Result.andThen_ok,invoke]
  simpa using this
 rw [hr];exact ⟨rfl,Calls.mono (c S' M' w hS hM V) fun e w' ⟨v',he,hv,hs⟩=>⟨by rw [he,hv],hs⟩⟩
theorem Ge (k:Nat) {fn:FuncId} {x:Operand} {xs:List Operand} {ats:Array TypeId} {args args':List Value} {fi ca:List Value} {d:Option Tmp} {ty:TypeId} {pos:String} {af:Array Edge} {g:Option (Nat×Bool)}
  (ho:lo[k]? = some ⟨d,.call { callee:=.value x,args:=xs.toArray,argTypes:=ats },ty,pos,af,g⟩) (hok:Fc lo bs k=true) (hw:Region.wanted ⟨d,.call { callee:=.value x,args:=xs.toArray,argTypes:=ats },ty,pos,af,g⟩ (yielded lo.toArray l.toArray)=true)
  (c:∀ S' M' w,S.Le S'→Suf M M'→St S' M' w→Ac P fn args' w fun v' w'=>v'=v∧St S' M' w') (hx:Ai l x=.func (.func fn) fi.toArray ca.toArray) (hb:Body P fn) (ha:xs.map (Ai l)=args) (hargs:fi++args++ca=args')
  (h:BC P lo Q f S M (bs.set k true) (Bq l d v) D):BC P lo Q (f+1) S M bs l D:=by
 refine H9 ho hok rfl (.inl ⟨hw,fun S' M' w hS hM V=>?_⟩) h;subst ha;subst hargs
 have hr:(execOp (Ai l) ⟨d,.call { callee:=.value x,args:=xs.toArray,argTypes:=ats },ty,pos,af,g⟩).run P w=.ok (.enter fn (fi++xs.map (Ai l)++ca).toArray) w:=by
  have:=hb.enter (w:=w) (fi++xs.map (Ai l)++ca).toArray;simp only [execOp,resolve,hx,Deferred.ofValue,Sem.run_bind,Sem.run_pure,Result.andThen_ok,invoke]
  simpa using this
 rw [hr];exact ⟨rfl,Calls.mono (c S' M' w hS hM V) fun e w' ⟨v',he,hv,hs⟩=>⟨by rw [he,hv],hs⟩⟩
def aA (P:Program) (lo:List Oper) (Q:Exit→Act→World→Prop) (S:Ad) (M:List J) (f:Nat) (bs:List Bool) (D:List Deferred) (K:Act→World→Prop):Prop :=
 ∀ S' M' l' w,S.Le S'→Suf M M'→St S' M' w→BC P lo Q f S' M' bs l' D→K ⟨l'.toArray,D⟩ w
def aC (P:Program) (lo:List Oper) (Q:Exit→Act→World→Prop) (f:Nat) (bs:List Bool) (D:List Deferred) (K:Act→World→Prop):Prop :=
 ∀ S' M' l' w,St S' M' w→BC P lo Q f S' M' bs l' D→K ⟨l'.toArray,D⟩ w
def NP (P:Program) (lo:List Oper) (Q:Exit→Act→World→Prop) (S:Ad) (M:List J) (f:Nat) (bs:List Bool) (l:List Value) (D:List Deferred) (k:Nat) (o:Oper):Prop :=
 ∀ w,St S M w→∀ K,(if D7 o then aC P lo Q f (bs.set k true) D K else aA P lo Q S M f (bs.set k true) D K)→wpList P lo.toArray (Exit.then K (NoPanic Q)) [o] ⟨l.toArray,D⟩ w
theorem Vg {k:Nat} (ho:lo[k]? = some o) (h:NP P lo Q S M f bs l D k o) (w:World) (V:St S M w) :
  wpOp P lo.toArray (NoPanic Q) k (fun a' w'=>∃ S' M' l',((∃ o,lo[k]? = some o∧D7 o=true)∨(S.Le S'∧Suf M M'))∧a'=⟨l'.toArray,D⟩∧St S' M' w'∧BC P lo Q f S' M' (bs.set k true) l' D) ⟨l.toArray,D⟩ w:=by
 refine KF (by simpa using ho) (h w V _ ?_)
 cases e:D7 o with
 | true=>exact fun S' M' l' w' h1 h2=>⟨S',M',l',.inl ⟨o,ho,e⟩,rfl,h1,h2⟩
 | false=>exact fun S' M' l' w' h0 h1 h2 h3=>⟨S',M',l',.inr ⟨h0,h1⟩,rfl,h2,h3⟩
theorem Z2 (rs:List Nat) (hr:Region.ready .any lo.toArray bs.toArray=rs) (hne:rs≠[]) (h:∀ k∈rs,∃ o,lo[k]? = some o∧NP P lo Q S M f bs l D k o):BC P lo Q (f+1) S M bs l D :=
 ⟨fun e=>absurd (hr▸e) hne,fun j hj w V=>let ⟨_,ho,h1⟩:=h j (hr▸hj);Vg ho h1 w V⟩
theorem AP (k:Nat) (ho:lo[k]? = some o) (hr:Region.ready .any lo.toArray bs.toArray=[k]) (h:NP P lo Q S M f bs l D k o):BC P lo Q (f+1) S M bs l D :=
 Z2 [k] hr (by simp) fun i hi=>by obtain rfl:=List.mem_singleton.1 hi;exact ⟨o,ho,h⟩
theorem Lv (j k:Nat) {o':Oper} (ho:lo[j]? = some o) (ho':lo[k]? = some o') (hr:Region.ready .any lo.toArray bs.toArray=[j,k]) (h:NP P lo Q S M f bs l D j o) (h':NP P lo Q S M f bs l D k o'):BC P lo Q (f+1) S M bs l D :=
 Z2 [j,k] hr (by simp) fun i hi=>by
  rcases List.mem_cons.1 hi with rfl|hi
  ·exact ⟨o,ho,h⟩
  ·obtain rfl:=List.mem_singleton.1 hi;exact ⟨o',ho',h'⟩
theorem AJ (hr:Region.ready .any lo.toArray bs.toArray=[]) (h:∀ w,St S M w→Q .normal ⟨l.toArray,D⟩ w):BC P lo Q f S M bs l D:=by
 cases f with
 | zero=>exact ⟨hr,h⟩
 | succ f=>exact ⟨fun _=>h,by rw [hr];simp⟩
theorem Bg {ops:Array Oper} {K:Act→World→Prop} {Q':Exit→Act→World→Prop} {S':Ad} {M':List J} {w:World} (G:aA P lo Q S M f bs D K) (V:St S' M' w) (hS:S.Le S') (hM:Suf M M')
  (h:BC P lo Q f S' M' bs l D):wpList P ops (Exit.then K Q') [] ⟨l.toArray,D⟩ w:=G S' M' l w hS hM V h
theorem Bb {ops:Array Oper} {K:Act→World→Prop} {Q':Exit→Act→World→Prop} {S':Ad} {M':List J} {w:World} (G:aC P lo Q f bs D K) (V:St S' M' w)
  (h:BC P lo Q f S' M' bs l D):wpList P ops (Exit.then K Q') [] ⟨l.toArray,D⟩ w:=G S' M' l w V h
end
variable {P:Program} {S:Ad} {M:List J} {w:World}
theorem St.allocObj (h:St S M w) (o):St S (.obj w.heap.size o::M) (w.alloc o):=by
 have old:∀ b,b < w.heap.size→(w.alloc o).heap[b]? = w.heap[b]?:=fun b hb=>Below.heap_alloc _ _ _ hb
 refine ⟨h.os,h.tape,h.output,fun b o' e=>?_,fun d hd=>?_,fun d hd b hb=>?_,List.pairwise_cons.2 ⟨fun d hd b hb hd'=>?_,h.apart⟩⟩
 ·have:=h.has b o' e;rw [old b (Array.getElem?_eq_some_iff.1 this).1];exact this
 ·rcases List.mem_cons.1 hd with rfl|hd
  ·exact World.alloc_heap_new w o
  ·exact J.at_of_block (h.at_ d hd) fun b hb=>old b (J.lt (h.at_ d hd) b hb)
 ·rcases List.mem_cons.1 hd with rfl|hd
  ·obtain rfl:w.heap.size=b:=by simpa [J.own] using hb
   cases e:S.blk w.heap.size with
   | none=>rfl
   | some o=>have:=(Array.getElem?_eq_some_iff.1 (h.has _ _ e)).1;omega
  ·exact h.out d hd b hb
 ·obtain rfl:w.heap.size=b:=by simpa [J.own] using hb
  have:=J.lt (h.at_ d hd) _ hd';omega
theorem St.putObj {b o o'} (h:St S (.obj b o::M) w):St S (.obj b o'::M) (w.putObj b o'):=by
 have hb:w.heap[b]? = some o:=h.at_ _ (.head _);refine h.set rfl rfl rfl (World.putObj_heap_same (Array.getElem?_eq_some_iff.1 hb).1) (fun k hk=>.inl hk) fun k _ hk=>World.putObj_heap_other ?_
 intro e;subst e;exact hk rfl
theorem Fu {n m l f tmps assign body} {R:Ending→World→Prop} (h:RoundIn Fence.wide n P l f tmps assign body w R):RoundIn Fence.wide m P l f tmps assign body w R :=
 ⟨h.1,fun c cs _=>h.2 c cs (room_wide _)⟩
def LU (P:Program) (S:Ad) (gf:FuncId) (lb:List Value) (Nqq:Nat) (ok:Nat→List Value→Prop):Prop :=
 ∀ (l:Nat) (MM:Nat→List J),(∀ k,k < Nqq→∀ vs,ok k vs→∀ W,St S (MM k) W→YieldAt Fence.wide 0 P l vs.toArray W fun e W'=>e=.returned (.bool true)∧St S (MM (k+1)) W') →
  ∀ W,St S (MM 0) W→Calls P gf (.func (.yield l) #[] #[]::lb).toArray W fun e W'=>(∃ v,e=.returned v)∧St S (MM Nqq) W'
theorem Kk (a b:J) (Lqq C):(a::b::(Lqq++C)).Perm (Lqq++(a::b::C)) :=
 (List.Perm.cons a List.perm_middle.symm).trans List.perm_middle.symm
theorem bj {g ps assign body} {Q:Exit→Act→World→Prop} {l D gf lb Nqq} {ok:Nat→List Value→Prop} (I:Nat→List J) (M0) (V:St S (I 0++M0) w) (hg:Ai l g=.func (.func gf) #[] lb.toArray) (hb:Body P gf) (hit:LU P S gf lb Nqq ok) (hps:∀ k vs,ok k vs→vs.length=ps.size) (a1:List Value→Act) (hassign:∀ (r:Nat) (vs:List Value) (W:World) (K:Act→World→Prop),vs.length=ps.size→K (a1 vs) W→assign.wpIn (Fence.wide.inRound r) 0 P (Exit.then K (fun _ _ _=>False)) { tmps:=(ps.zip vs.toArray).foldl (fun t (p,v)=>t.setIfInBounds p v) l.toArray,defers:=[] } W) (hbody:∀ (r k:Nat) (vs:List Value) (C:List J) (W:World),k < Nqq→ok k vs→St S (I k++C) W→body.wpIn (Fence.wide.inRound r) 0 P (fun e _ W'=>e=.normal∧St S (I (k+1)++C) W') (a1 vs) W) (hdone:∀ (d:Nat) (W:World),St S (.obj d (.deferred (some []))::(I Nqq++M0)) W→Q .normal ⟨l.toArray,{ target:=.collected d,args:=#[] }::D⟩ W):
  (Code.rangeFunc g ps assign body).wp P Q ⟨l.toArray,D⟩ w:=by
 refine (wpIn_wide (n:=0)).1 (wpIn_rangeFunc ?_);intro fn hfn;obtain ⟨rec,hrec⟩:∃ rec:LoopState→Option Code→Loop,rec=fun st pe=>{ state:=st,pending:=pe,fn,tmps:=l.toArray,params:=ps,assign,body,defers:=w.heap.size }:=⟨_,rfl⟩
 obtain ⟨W1,hW1⟩:∃ W1,(w.alloc (.deferred (some []))).alloc (.loop (rec .ready none))=W1:=⟨_,rfl⟩
 have hst1:St S (.obj (w.heap.size+1) (.loop (rec .ready none))::.obj w.heap.size (.deferred (some []))::(I 0++M0)) W1:=by
  rw [← hW1];have:=(V.allocObj (.deferred (some []))).allocObj (.loop (rec .ready none));rwa [World.size_alloc] at this
 refine ⟨w.heap.size+1,[{ target:=.collected w.heap.size,args:=#[] }],W1,{ target:=.fn (.func gf) lb.toArray,args:=#[.func (.yield (w.heap.size+1)) #[] #[]] },W1,gf,
  (.func (.yield (w.heap.size+1)) #[] #[]::lb).toArray,W1,?_,?_,fun _ _=>trivial,?_,(fun h=>by cases h),?_⟩
 ·rw [← hW1,hrec];exact run_enterLoop_outer _ _ _ _ _
 ·simp only [resolve,Di,hg];simp [go_sem,Ai]
 ·have:=hb.enter (w:=W1) (.func (.yield (w.heap.size+1)) #[] #[]::lb).toArray;simp only [invoke]
  simpa using this
 ·refine callsIn_wide.2 (Calls.mono (hit (w.heap.size+1) (fun k=>.obj (w.heap.size+1) (.loop (rec .ready none))::.obj w.heap.size (.deferred (some []))::(I k++M0)) ?_ W1 hst1) ?_)
  ·intro k hk vs hvs W hW;have hl:W.heap[w.heap.size+1]? = some (.loop (rec .ready none)):=hW.at_ _ (.head _);have hlen:=hps k vs hvs;have hy:=run_yield (P:=P) (args:=vs.toArray) hl (by rw [hrec];simpa using hlen);rw [hrec] at hy;refine ⟨fn,_,assign,body,hy,Fu (n:=0) (roundIn_of_wpIn hfn (hassign _ vs W _ hlen ⟨_,run_beginRound hl (by rw [hrec]),?_⟩))⟩;have hst2:=(hW.putObj (o':=.loop { rec .ready none with state:=.busy })).perm (Kk _ _ _ _);refine wpIn_mono (hbody _ k vs _ _ hk hvs hst2) ?_;rintro e a3 W3 ⟨rfl,hst3⟩;have hst4:=hst3.perm (Kk _ _ _ _).symm;have hl3:W3.heap[w.heap.size+1]? = some (.loop { rec .ready none with state:=.busy }):=hst4.at_ _ (.head _);have hr:=run_endRound (P:=P) none hl3;refine ⟨_,_,hr,rfl,?_⟩;have:=hst4.putObj (o':=.loop (rec .ready none));rw [hrec] at this ⊢;exact this
  ·rintro e W2 ⟨⟨v,rfl⟩,hst2⟩;have hl:W2.heap[w.heap.size+1]? = some (.loop (rec .ready none)):=hst2.at_ _ (.head _);have hr:=run_endLoop (P:=P) hl (by rw [hrec];simp);rw [hrec] at hr;refine ⟨none,_,hr,hdone _ _ ?_⟩;exact (hst2.putObj (o':=.loop _)).drop
theorem Gz {f fn c args} {post:Value→World→Prop} (hf:P.funcs[f]? = some fn) (hb:fn.body=some c) (h:c.wp P (bodyPostM Fence.wide 0 P fn fun e w'=>∃ v,e=.returned v∧post v w') { tmps:=args.toArray++Array.replicate (fn.ntmps - args.toArray.size) undef,defers:=[] } w):Ac P f args w post :=
 (callsIn_wide (n:=0)).1 (callsIn_of_wp_marks hf hb trivial ((wpIn_wide (n:=0)).2 h) rfl)
theorem I7 {fn} {R:Ending→World→Prop} {l d v r} (V:St S (.obj d (.deferred (some []))::M) w) (hr:fn.results = #[r]) (hv:∀ w',St S M w'→G0 P l w' r v) (hR:∀ w',St S M w'→R (.returned v) w'):bodyPostM Fence.wide 0 P fn R .ret ⟨l.toArray,[{ target:=.collected d,args:=#[] }]⟩ w:=by
 have hk:w.heap[d]? = some (.deferred (some [])):=V.at_ _ (.head _);have hst':=(V.putObj (o':=.deferred none)).drop;refine ⟨by simp,.inl ⟨d,_,rfl,run_takeDeferred hk,?_⟩⟩;refine ⟨v,?_,hR _ hst'⟩;have hn:∀ t,AV l t=l[t]?.getD undef:=fun t=>by simp [EI]
 have h:=hv _ hst'
 cases r<;>simp only [G0,hn] at h<;>(try obtain ⟨ad,h,k⟩:=h)<;>simp_all [results,asAddr]
theorem Yh {g p d id ty pos af body} {Q:Exit→Act→World→Prop} {l D gf lb Nqq} {ok:Nat→List Value→Prop} (I:Nat→List J) (M0) (V:St S (I 0++M0) w) (hg:Ai l g=.func (.func gf) #[] lb.toArray) (hb:Body P gf) (hit:LU P S gf lb Nqq ok) (hps:∀ k vs,ok k vs→vs.length=1) (L:p < l.length) (hbody:∀ (r k:Nat) (v:Value) (C:List J) (W:World),k < Nqq→ok k [v]→St S (I k++C) W→body.wpIn (Fence.wide.inRound r) 0 P (fun e _ W'=>e=.normal∧St S (I (k+1)++C) W') ⟨((l.set p v).set d v).toArray,[]⟩ W) (hdone:∀ (d:Nat) (W:World),St S (.obj d (.deferred (some []))::(I Nqq++M0)) W→Q .normal ⟨l.toArray,{ target:=.collected d,args:=#[] }::D⟩ W):
  (Code.rangeFunc g #[p] (Code.region id #[⟨some d,.assign (.tmp p),ty,pos,af,none⟩] false) body).wp P Q ⟨l.toArray,D⟩ w:=by
 refine bj I M0 V hg hb hit (fun k vs h=>hps k vs h) (fun vs=>⟨((l.set p (vs.headD undef)).set d (vs.headD undef)).toArray,[]⟩) ?_ ?_ hdone
 ·intro r vs W K hl G;obtain ⟨v,rfl⟩:=List.length_eq_one_iff.1 hl;refine Fw (l:=[⟨some d,.assign (.tmp p),ty,pos,af,none⟩]) (.inr ⟨r,rfl⟩) ?_ rfl ?_
  ·rintro ⟨a,w,h⟩;exact h
  ·have e:((#[p].zip [v].toArray).foldl (fun t (x:Tmp×Value)=>t.setIfInBounds x.1 x.2) l.toArray)=(l.set p v).toArray:=by simp
   show wpList P _ _ _ { tmps:=(#[p].zip [v].toArray).foldl (fun t (x:Tmp×Value)=>t.setIfInBounds x.1 x.2) l.toArray,defers:=[] } W;rw [e];refine BK (v:=v) (w':=W) ?_ G;have e2:AV (l.set p v) p=v:=by rw [EI];simp [L]
   simp [execOp,Ai,e2]
 ·intro r k vs C W hk hvs V;obtain ⟨v,rfl⟩:=List.length_eq_one_iff.1 (hps k vs hvs);exact hbody r k v C W hk hvs V
section
variable {F:Fence} {n:Nat} {ops:Array Oper} {Q:Exit→Act→World→Prop} {l:List Value} {D:List Deferred}
theorem Oj (k) {lo a} (hF:Wd F) (hQ:¬ LetsOut Q) (hd:Ei (lo.take k)=true) (h:wpList P ops (Exit.then (wpListIn F n P ops Q (lo.drop k)) Q) (lo.take k) a w):wpListIn F n P ops Q lo a w:=by
 have:=K7 (n:=n) hF hQ (rest:=lo.drop k) (fun a w h=>h) (lo.take k) hd a w h;rwa [List.take_append_drop] at this
theorem E7 {lo a} (hF:Wd F) (hQ:¬ LetsOut Q) (hd:Ei lo=true) (h:wpList P ops Q lo a w):wpListIn F n P ops Q lo a w:=by
 have:=K7 (n:=n) (rest:=[]) (K:=Q .normal) (ops:=ops) hF hQ (fun a w h=>h) lo hd a w (by
  have e:Exit.then (Q .normal) Q=Q:=by funext e a w;cases e<;>rfl
  rw [e];exact h)
 rwa [List.append_nil] at this
theorem Qv {rest d x} {xs:List Operand} {ats ty pos af r vs v} {C:World→Prop} (hx:Ai l x=.func (.yield r) #[] #[]) (ha:xs.map (Ai l)=vs) (hy:YieldAt Fence.wide 0 P r vs.toArray w fun e w'=>e=.returned v∧C w') (h:∀ w',C w'→wpListIn Fence.wide 0 P ops Q rest ⟨(l.set d v).toArray,D⟩ w'):
  wpListIn Fence.wide 0 P ops Q (⟨some d,.call { callee:=.value x,args:=xs.toArray,argTypes:=ats },ty,pos,af,none⟩::rest) ⟨l.toArray,D⟩ w:=by
 obtain ⟨fn,tmps,assign,body,hr,hR⟩:=hy;subst ha;refine wpListIn_plain rfl fun K G=>⟨fun _ _=>trivial,?_⟩
 have hrun:(execOp (Ai l) ⟨some d,.call { callee:=.value x,args:=xs.toArray,argTypes:=ats },ty,pos,af,none⟩).run P w=.ok (.round r fn tmps assign body) w:=by
  have e:Array.map (Ai l) xs.toArray=(xs.map (Ai l)).toArray:=by simp
  simp only [execOp,resolve,hx,Deferred.ofValue,Sem.run_bind,Sem.run_pure,Result.andThen_ok,invoke,e,Array.append_empty,Array.empty_append];exact hr
 rw [Oper.semAt_eq _ _ _ (by intro c;simp),Di,hrun];refine ⟨(fun h=>by cases h),Fu (n:=0) (hR.mono ?_)⟩;rintro e w' ⟨rfl,hC⟩;refine G _ _ ?_;have:=h w' hC
 simpa [Act.put] using this
end
theorem FA {P S M l} {α:Type} [Z α] {T E n x lo hi agg zero bb p} {y:H7 α n} {a b} (hx:Ai l x=p) (L:Pt S p y) (hT:ArrT P T n E) (hE:Ty P E agg (Z.z α) zero bb) (hl:Bd (lo.map (Ai l)) 0 a) (hh:Bd (hi.map (Ai l)) n b) (h1:a≤b) (h2:b≤n) (hn:n≤maxLen):∃ v,RSl S v ((y.l.drop a).take (b - a))∧Qt P l (.slice T x lo hi none) S M v:=by
 obtain ⟨b0,o,c,B,fz,rfl,hb,hR⟩:=L;have hyl:y.l.length=n:=hR.1;have hRL:RL S ((c.toList.drop o).take (y.l.length * Z.z α)) y.l:=by rw [hyl];exact hR.2
 have hv:RSl S (.slice (some ⟨b0,o,none⟩) n n) y.l:=.inr ⟨b0,o,n,c,B,fz,by rw [hyl],hb,by omega,by omega,hRL⟩;have hs:=hv.sub rfl a b n h1 (by omega) (by omega) (Nat.le_refl _);refine ⟨_,hs,fun dst ty pos af w V=>?_⟩;have e1:(Instr.sureAddr (.pointer (some ⟨b0,o,none⟩))).run P w=.ok ⟨b0,o,none⟩ w:=rfl;have e2:=M7 (P:=P) (w:=w) (lo:=lo.map (Ai l)) (hi:=hi.map (Ai l)) (mx:=none) (len:=n) (cap:=n) (a:=a) (b:=b) (m:=n) hl hh (.inl ⟨rfl,rfl⟩) h1 h2 (Nat.le_refl _) (by simp) false;have e3:(if n=a then some (⟨b0,o,none⟩:Addr) else Option.map (fun x:Addr=>x.add (a * Z.z α)) (some ⟨b0,o,none⟩))=some (if n=a then ⟨b0,o,none⟩ else (⟨b0,o,none⟩:Addr).add (a * Z.z α)):=by split<;>rfl
 rw [e3];simp only [execOp,hx,Instr.sliceAt,Sem.run_bind,run_underlying hT.u,Result.andThen_ok,e1,e2,hE.run_sizeOf,Sem.run_pure,Option.map_none]
theorem im {P lo} {Q:Exit→Act→World→Prop} {S M f bs l D o} (k) {F:Value→Prop} (ho:lo[k]? = some o) (hok:Fc lo bs k=true) (hns:D7 o=false) (hw:Region.wanted o (yielded lo.toArray l.toArray)=true) (hq:∃ v,F v∧Qt P l o.op S M v) (h:∀ v,F v→BC P lo Q f S M (bs.set k true) (Bq l o.dst v) D):BC P lo Q (f+1) S M bs l D:=let ⟨v,hv,q⟩:=hq;Te k ho hok hns hw q (h v hv)
class LenIs (bs:List UInt8) (n:Nat):Prop where
 h:bs.length=n
section
variable {P:Program} {S:Ad} {M:List J} {l:List Value} {ops:Array Oper} {rest:List Oper} {Q:Exit→Act→World→Prop} {D:List Deferred} {w:World} {ty:TypeId} {pos:String} {af:Array Edge}
theorem Hf {v:Value} (h:v.oneCell'=true):v.cells.size=1:=by
 have:=congrArg List.length (CS h)
 simpa using this
theorem Gc {T B x zero} {z bb b k:Nat} {bs} (hx:Ai l x=.pointer (some ⟨b,0,none⟩)) (hk:M[k]? = some (.box b (u8s bs) B)) (hT:Ty P T true z zero bb) (hl:LenIs bs z):Qt P l (.load T x) S M (.agg (u8s bs).toArray) :=
 BB hx hk hT (by rw [Bh,hl.h])
theorem Gx {T B:TypeId} {x y:Operand} {zero c:List Value} {z bb b k:Nat} {bs:List UInt8} (V:St S M w) (hx:Ai l x=.pointer (some ⟨b,0,none⟩)) (hk:M[k]? = some (.box b c B)) (hT:Ty P T true z zero bb) (hy:Ai l y=.agg (u8s bs).toArray) (hl:LenIs bs z) (hc:c.length=z)
  (h:∀ w',St S (M.set k (.box b (u8s bs) B)) w'→wpList P ops Q rest ⟨l.toArray,D⟩ w'):wpList P ops Q (⟨none,.store T x y,ty,pos,af,none⟩::rest) ⟨l.toArray,D⟩ w:=by
 have hb:=hl.h;refine Ax V hx k hk hT hy (cs:=u8s bs) rfl (by rw [Bh,hb]) (List.all_eq_true.2 (Fh _)) (by omega) fun w' h'=>h w' ?_
 rw [List.take_zero,List.nil_append,List.drop_of_length_le (by omega),List.append_nil] at h';exact h'
theorem IK {c:List Value} {z} (h:c.length=z:=by first|(with_unfolding_all exact rfl)|(rw [Bh];exact LenIs.h)):c.length=z:=h
theorem Ke {fn} {R:Ending→World→Prop} {a T z zero bb b bs B} {k:Nat} (hr:fn.results = #[.cell a T]) (V:St S M w) (hx:AV l a=.pointer (some ⟨b,0,none⟩)) (hk:M[k]? = some (.box b (u8s bs) B)) (hT:Ty P T true z zero bb) (hl:LenIs bs z) (hR:R (.returned (.agg (u8s bs).toArray)) w):bodyPost P fn R .ret ⟨l.toArray,[]⟩ w :=
 Bl hr V hx k hk hT (cs:=u8s bs) (by rw [List.drop_zero,List.take_of_length_le (by rw [Bh,hl.h];exact Nat.le_refl _)]) (by rw [Bh,hl.h]) hR
end
variable {P:Program} {S:Ad} {M:List J} {l:List Value}
theorem P2 (off:Nat):∀ (vs:List Value) (j:Nat) (c:Array Value),off+j+vs.length≤c.size→(vs.zipIdx j).foldl (fun cs p=>cs.setIfInBounds (off+p.2) p.1) c=(c.toList.take (off+j)++vs++c.toList.drop (off+j+vs.length)).toArray
 | [],j,c,_=>by simp
 | u::us,j,c,hc=>by
  simp only [List.length_cons] at hc;rw [List.zipIdx_cons,List.foldl_cons,P2 off us (j+1) _ (by simp;omega)];have hlt:off+j < c.toList.length:=by simp;omega
  congr 1
  simp only [Array.toList_setIfInBounds];rw [List.set_eq_take_append_cons_drop,if_pos hlt];have hl2:(c.toList.take (off+j)).length=off+j:=by simp;omega
  rw [show off+(j+1)=off+j+1 from by omega,RP hl2,SD hl2,List.drop_drop];simp only [List.append_assoc,List.singleton_append];rw [show off+j+1+us.length=off+j+(u::us).length from by simp;omega]
theorem Wy {place} {cells:List Value} {i off size v r} (L:place i=some (off,size)) (hs:v.cells.toList.length=size) (hb:off+size≤cells.length):
  Instr.fill place cells.toArray ((i,v)::r)=Instr.fill place (cells.take off++v.cells.toList++cells.drop (off+size)).toArray r:=by
 have hs':v.cells.size=size:=by simpa using hs
 have hbig:¬ (off+size > cells.length):=by omega
 rw [Instr.fill,L];simp only [hs',ne_eq,not_true_eq_false,decide_false,Bool.false_or,List.size_toArray];rw [if_neg (by simpa using hbig)];have:=P2 off v.cells.toList 0 cells.toArray (by simp [hs'];omega)
 have hz:v.cells.zipIdx.foldl (fun cs x=>match x with|(c,j)=>cs.setIfInBounds (off+j) c) cells.toArray=(cells.take off++v.cells.toList++cells.drop (off+size)).toArray:=by
  rw [← Array.foldl_toList]
  simpa [hs'] using this
 rw [hz]
inductive Puts (S:Ad) (places:List (Nat×Nat)) {α:Type} [Z α]:List (Nat×Value)→α→α→Prop
 | nil {x:α}:Puts S places [] x x
 | cons {k off:Nat} {β:Type} [Z β] {get:α→β} {put:α→β→α} [HasF α k β off get put] {v:Value} {y:β} {x x':α} {r:List (Nat×Value)} (hv:Z.R S v.cells.toList y) (L:places[k]? = some (off,Z.z β)) (h:Puts S places r (put x y) x'):Puts S places ((k,v)::r) x x'
theorem Wz {α:Type} [Z α] {places parts} {x x':α} (h:Puts S places parts x x'):∀ cells,Z.R S cells x→∃ cs,Instr.fill (fun i=>places.toArray[i]?) cells.toArray parts=some cs.toArray∧Z.R S cs x':=by
 induction h with
 | nil=>exact fun cells hc=>⟨cells,rfl,hc⟩
 | cons hv L h ih =>
  rename_i k off β _ get put i v y x x' r;intro cells hc;have hb:=i.le;have hl:=Z.len hc;rw [Wy (off:=off) (size:=Z.z β) (by simpa using L) (Z.len hv) (by omega)];exact ih _ (i.wr hc hv)
section
variable {α:Type} [Z α] {T:TypeId} {places:List (Nat×Nat)} {z:Nat} {zero:List Value} {bb:Nat} {x0 x':α} {ps:List (Nat×Operand)}
theorem Gh {cells:α→List Value} (hF:FlatC α cells) (hT:StructT P T places) (hZ:Ty P T true z zero bb) (h0:Z.R S zero x0) (L:Puts S places (ps.map fun q=>(q.1,Ai l q.2)) x0 x'):Qt P l (.build T ps.toArray) S M (.agg (cells x').toArray):=by
 obtain ⟨cs,hf,hR⟩:=Wz L zero h0;rw [← hF.flat hR];exact Dc hT hZ hf
end
section
variable {α β:Type} [Z α] [Z β]
instance MB {f:α→List Value} {g:β→List Value} [hf:FlatC α f] [hg:FlatC β g]:FlatC (α×β) (fun p=>f p.1++g p.2):=⟨fun {S cs x} h=>by
 rw [← hf.flat h.2.1,← hg.flat h.2.2,List.take_append_drop]⟩
instance l4:FlatC Unit (fun _=>[]):=⟨fun h=>h⟩
instance mU:FlatC Int (fun n=>[.int .i64 n]):=⟨fun h=>h.1⟩
variable {ops:Array Oper} {rest:List Oper} {Q:Exit→Act→World→Prop} {D:List Deferred} {w:World} {ty:TypeId} {pos:String} {af:Array Edge} {d:Tmp}
theorem Gb {T B x zero c} {bb b k:Nat} {x0:α} (hx:Ai l x=.pointer (some ⟨b,0,none⟩)) (hk:M[k]? = some (.box b c B)) (hR:Z.R S c x0) (hT:Ty P T true (Z.z α) zero bb):Qt P l (.load T x) S M (.agg c.toArray) :=
 BB hx hk hT (Z.len hR)
theorem Cf {T B:TypeId} {x y:Operand} {zero c cs:List Value} {bb b k:Nat} {x0:α} (V:St S M w) (hx:Ai l x=.pointer (some ⟨b,0,none⟩)) (hk:M[k]? = some (.box b c B)) (hT:Ty P T true (Z.z α) zero bb) (hy:Ai l y=.agg cs.toArray) (hR:Z.R S cs x0) (hc:c.length=Z.z α)
  (h:∀ w',St S (M.set k (.box b cs B)) w'→wpList P ops Q rest ⟨l.toArray,D⟩ w') :
  wpList P ops Q (⟨none,.store T x y,ty,pos,af,none⟩::rest) ⟨l.toArray,D⟩ w:=by
 have hl:=Z.len hR;refine Ax V hx k hk hT hy (cs:=cs) rfl hl (List.all_eq_true.2 (Z.one hR)) (by omega) fun w' h'=>h w' ?_
 rw [List.take_zero,List.nil_append,List.drop_of_length_le (by omega),List.append_nil] at h';exact h'
theorem k8 {a:Tmp} {T:TypeId} {zero c:List Value} {bb:Nat} {b:Nat} {B:TypeId} {k:Nat} {x0:α} (V:St S M w) (hx:AV l a=.pointer (some ⟨b,0,none⟩)) (hk:M[k]? = some (.box b c B))
  (hT:Ty P T true (Z.z α) zero bb) (hR:Z.R S c x0):G0 P l w (.cell a T) (.agg c.toArray) :=
 AZ (cs:=c) V hx k hk hT (by rw [List.drop_zero,List.take_of_length_le (by rw [Z.len hR];exact Nat.le_refl _)]) (Z.len hR)
theorem Pq {fn:Func} {R:Ending→World→Prop} {a:Tmp} {T:TypeId} {zero c:List Value} {bb:Nat} {b:Nat} {B:TypeId} {k:Nat} {x0:α} (hr:fn.results = #[.cell a T]) (V:St S M w) (hx:AV l a=.pointer (some ⟨b,0,none⟩)) (hk:M[k]? = some (.box b c B))
  (hT:Ty P T true (Z.z α) zero bb) (hx0:Z.R S c x0) (hR:R (.returned (.agg c.toArray)) w):bodyPost P fn R .ret ⟨l.toArray,[]⟩ w :=
 Bl hr V hx k hk hT (cs:=c) (by rw [List.drop_zero,List.take_of_length_le (by rw [Z.len hx0];exact Nat.le_refl _)]) (Z.len hx0) hR
end
inductive Sls (S:Ad):List Value→List (List UInt8)→Prop
 | nil:Sls S [] []
 | cons {v:Value} {x:List UInt8} {vs:List Value} {xs:List (List UInt8)} (h:RSl S v x) (hs:Sls S vs xs):Sls S (v::vs) (x::xs)
theorem Sls.rl {vs xs} (h:Sls S vs xs):RL S vs xs∧vs.length=xs.length∧(∀ v∈vs,v.oneCell'=true):=by
 induction h with
 | nil=>exact ⟨RL.nil,rfl,by simp⟩
 | @cons v x vs xs hv hs ih =>
  refine ⟨⟨by have h1:=ih.2.1;have hz:Z.z (List UInt8)=1:=rfl;rw [hz];simp [h1],fun i y hy=>?_⟩,by simp [ih.2.1],fun u hu=>?_⟩
  ·have hz:Z.z (List UInt8)=1:=rfl
   cases i with
   | zero =>
    cases hy;exact ⟨v,rfl,hv⟩
   | succ i =>
    have:=ih.1.2 i y (by simpa using hy);rw [hz,Nat.mul_one] at this ⊢;exact this
  ·rcases List.mem_cons.1 hu with rfl|hu
   ·exact hv.oneCell
   ·exact ih.2.2 u hu
section
variable {ops:Array Oper} {rest:List Oper} {Q:Exit→Act→World→Prop} {D:List Deferred} {w:World} {ty:TypeId} {pos:String} {af:Array Edge} {d:Tmp}
theorem Eg {T E:TypeId} {n:Nat} {parts:Array (Nat×Operand)} {zero:List Value} {bb:Nat} {vs:List Value} {xs:List (List UInt8)} (V:St S M w) (hs:Sls S vs xs) (hT:SlT P T E) (hE:Ty P E false 1 zero bb)
  (L:parts.toList.map (fun p=>(p.1,Ai l p.2))=(vs.zipIdx.map fun p=>(p.2,p.1))) (hn:vs.length=n) (hb:n≤1000)
  (h:∀ S' u w',S.Le S'→RSl S' u xs→u.oneCell'=true→St S' M w'→wpList P ops Q rest ⟨(l.set d u).toArray,D⟩ w') :
  wpList P ops Q (⟨some d,.buildSlice T n parts,ty,pos,af,none⟩::rest) ⟨l.toArray,D⟩ w:=by
 obtain ⟨h1,h2,h3⟩:=hs.rl
 have hfl:(vs.map (·.cells.toList)).flatten=vs:=by
  clear hs h1 h2 L hn
  induction vs with
  | nil=>rfl
  | cons v r ih=>rw [List.map_cons,List.flatten_cons,ih (fun u hu=>h3 u (.tail _ hu)),CS (h3 v (.head _))];rfl
 refine Ay (vs:=vs) (cs:=vs) V hT hE L hn (fun v hv=>Hf (h3 v hv)) hfl (by omega) (by omega) fun u w' hst'=>?_
 obtain ⟨S',a,b,c⟩:=St.freeze (α:=List UInt8) (T:=E) (xs:=xs) hst' h1 (by omega);exact h S' u w' a c c.oneCell b
end
section
variable {P:Program} {S:Ad} {M:List J} {l:List Value} {T U:TypeId} {x y:Operand}
theorem RF {n} (h:0≤n∧n≤255):IntKind.u8.wrap n=n:=by
 simp only [IntKind.wrap,IntKind.bits,IntKind.signed];simp;omega
theorem N5 {a b:Int} (hx:Ai l x=.int .i64 a) (hy:Ai l y=.int .i64 b) (hw:0≤a∧0 < b):Qt P l (.binOp .rem T x y U) S M (.int .i64 (a % b)) :=
 YA hx hy (by omega) (Int.tmod_eq_emod_of_nonneg hw.1)
theorem W6 (a b:UInt8):bits .xor .u8 (a.toNat:Int) (b.toNat:Int)=((a ^^^ b).toNat:Int):=by
 show IntKind.u8.wrap ((BitVec.ofInt 8 (a.toNat:Int) ^^^ BitVec.ofInt 8 (b.toNat:Int)).toNat:Int)=_;have e:∀ x:UInt8,BitVec.ofInt 8 (x.toNat:Int)=x.toBitVec:=fun x=>by rw [BitVec.ofInt_natCast];exact BitVec.ofNat_toNat ..
 rw [e,e,RF (by have:=(a.toBitVec ^^^ b.toBitVec).isLt;omega)];rfl
theorem Ng {vs:List Value} {i v} (hx:Ai l x=.tuple vs.toArray) (hi:vs[i]? = some v):Qt P l (.extract x i) S M v:=fun dst ty pos af w _=>by
 simp [execOp,hx,Instr.extract,hi]
end
section
variable {P:Program} {lo:List Oper} {Q:Exit→Act→World→Prop}
def RQ (lo:List Oper) (bs:List Bool) (i:Nat):Bool :=
 Region.noSelect lo.toArray && Region.free .any lo.toArray bs.toArray i && (Region.ready .any lo.toArray bs.toArray).contains i
theorem aL {i oi v D} (hi:lo[i]? = some oi) (hsel:Region.noSelect lo.toArray=true) (hns:D7 oi=false):
  ∀ (f:Nat) (S:Ad) (M:List J) (bs:List Bool) (l:List Value),
   (∀ j oj,lo[j]? = some oj→j≠i→bs.toArray.getD j true=false→(∀ e∈oj.after,Region.binds .any e=true→e.on≠i)→oi.apart lo.toArray oj=true) →
   i∈Region.ready .any lo.toArray bs.toArray→(Region.wanted oi (yielded lo.toArray l.toArray)=true∧(∀ S M,YX P S M l oi v)∨Region.wanted oi (yielded lo.toArray l.toArray)=false∧v=undef) →
   BC P lo Q f S M (bs.set i true) (Bq l oi.dst v) D→BC P lo Q (f+1) S M bs l D:=by
 have hi':lo.toArray[i]? = some oi:=by simpa using hi
 have first:∀ {f:Nat} {S:Ad} {M:List J} {bs:List Bool} {l:List Value} {w:World},(Region.wanted oi (yielded lo.toArray l.toArray)=true∧(∀ S M,YX P S M l oi v)∨Region.wanted oi (yielded lo.toArray l.toArray)=false∧v=undef)→St S M w →
   BC P lo Q f S M (bs.set i true) (Bq l oi.dst v) D→wpOp P lo.toArray (NoPanic Q) i (fun a' w'=>∃ S' M' l',((∃ o,lo[i]? = some o∧D7 o=true)∨(S.Le S'∧Suf M M'))∧a'=⟨l'.toArray,D⟩∧St S' M' w'∧BC P lo Q f S' M' (bs.set i true) l' D) ⟨l.toArray,D⟩ w:=by
  intro f S M bs l w hy V H;rcases hy with ⟨hw,hy⟩|⟨hw,rfl⟩
  ·exact MQ hi' hw V (hy S M S M w (Ad.Le.refl S) (Suf.refl M) V) fun w' hw'=>⟨S,M,_,.inr ⟨Ad.Le.refl S,Suf.refl M⟩,rfl,hw',H⟩
  ·unfold wpOp;simp only [hi',hw,Bool.false_eq_true,if_false];exact ⟨S,M,_,.inr ⟨Ad.Le.refl S,Suf.refl M⟩,E4 l D oi.dst undef,V,H⟩
 intro f
 induction f with
 | zero =>
  intro S M bs l hfree hr hy H;refine ⟨fun e=>(by rw [e] at hr;cases hr),fun j hj w V=>?_⟩;by_cases hji:j=i
  ·subst hji;exact first hy V H
  ·have:=ready_mono hj hji;rw [EE,H.1] at this;cases this
 | succ f ih =>
  intro S M bs l hfree hr hy H;refine ⟨fun e=>(by rw [e] at hr;cases hr),fun j hj w V=>?_⟩;by_cases hji:j=i
  ·subst hji;exact first hy V H
  ·have hj2:j∈Region.ready .any lo.toArray (bs.set i true).toArray:=by rw [← EE];exact ready_mono hj hji
   have h1:=H.2 j hj2 w V;obtain ⟨hjun,oj,hoj,hall⟩:=mem_ready.1 hj
   have hnot:∀ e∈oj.after,Region.binds .any e=true→e.on≠i:=fun e he hb heq=>by
    have h1:=hall e he hb;have h0:=(mem_ready.1 hr).1;rw [heq,getD_both h0] at h1;cases h1
   have hoj':lo[j]? = some oj:=by simpa using hoj
   rw [← E4] at h1;have h2:=OB (i:=i) hoj (hfree j oj hoj' hji hjun hnot) (fun cs b=>Region.noSelect_spec hsel i oi cs b hi') (fun cs b=>Region.noSelect_spec hsel j oj cs b hoj) h1;refine wpOp_mono (fun a' w' h3=>?_) h2;obtain ⟨⟨hc1,hc2⟩,S',M',l'',hex,hl,hst',hA⟩:=h3;obtain ⟨t,d⟩:=a'
   have hd:d=D:=by
    have:=congrArg Act.defers hl
    cases ho:oi.dst<;>simpa [Act.put,ho] using this
   subst hd;obtain ⟨l',rfl⟩:∃ l':List Value,t=l'.toArray:=⟨t.toList,by simp⟩
   rw [E4] at hl
   obtain rfl:Bq l' oi.dst v=l'':=by
    have:=congrArg (fun a=>a.tmps.toList) hl
    simpa using this
   refine ⟨S',M',l',hex,rfl,hst',ih S' M' (bs.set j true) l' ?_ ?_ ?_ ?_⟩
   ·intro k ok hk hki hun hno;refine hfree k ok hk hki ?_ hno;rw [← EE] at hun;by_cases hjk:j=k
    ·subst hjk;exact hjun
    ·rwa [getD_set_ne true hjk] at hun
   ·rw [← EE];exact ready_mono hr (Ne.symm hji)
   ·rw [Di,Di] at hc1;rcases hy with ⟨hw,hy⟩|⟨hw,hv⟩
    ·refine .inl ⟨hc2.trans hw,?_⟩;intro S1 M1 S2 M2 w2 hS2 hM2 hst2;rw [hc1];exact hy S1 M1 S2 M2 w2 hS2 hM2 hst2
    ·exact .inr ⟨hc2.trans hw,hv⟩
   ·have e:=Array.setIfInBounds_comm (xs:=bs.toArray) (i:=i) (j:=j) true true (Ne.symm hji)
    have e':(bs.set i true).set j true=(bs.set j true).set i true:=by
     have:=congrArg Array.toList e
     simpa using this
    rw [← e'];exact hA
variable {S:Ad} {M:List J} {f:Nat} {bs:List Bool} {l:List Value} {D:List Deferred} {o:Oper} {v:Value}
theorem ED (k:Nat) (ho:lo[k]? = some o) (hok:RQ lo bs k=true) (hns:D7 o=false) (hw:Region.wanted o (yielded lo.toArray l.toArray)=true) (hq:∀ S M,Qt P l o.op S M v)
  (h:BC P lo Q f S M (bs.set k true) (Bq l o.dst v) D):BC P lo Q (f+1) S M bs l D:=by
 simp only [RQ,Bool.and_eq_true] at hok;obtain ⟨⟨h1,h2⟩,h3⟩:=hok;have ho':lo.toArray[k]? = some o:=by simpa using ho
 exact aL ho h1 hns f S M bs l (fun j oj hj=>Region.free_spec ho' h2 j oj (by simpa using hj)) (by simpa using h3) (.inl ⟨hw,fun S M=>YX.qt (hq S M)⟩) h
end
section
variable {P:Program} {lo:List Oper} {Q:Exit→Act→World→Prop}
def Px (P:Program) (S:Ad) (M:List J) (l:List Value) (o:Oper) (F:Ad→Value→Prop):Prop :=
 ∀ S' w,S.Le S'→St S' M w→(∃ fn args,(execOp (Ai l) o).run P w=.ok (.enter fn args) w∧Calls P fn args w (fun e w'=>∃ v S'',e=.returned v∧S'.Le S''∧F S'' v∧St S'' M w')) ∨
  (∃ v w' S'',(execOp (Ai l) o).run P w=.ok (.value v) w'∧S'.Le S''∧F S'' v∧St S'' M w')
theorem Px.mono {S S1 M l o} {F:Ad→Value→Prop} (h:Px P S M l o F) (hS:S.Le S1):Px P S1 M l o F :=
 fun S' w h1 h2=>h S' w (hS.trans h1) h2
structure aD (P:Program) (lo:List Oper) (S:Ad) (M:List J) (l:List Value) (k:Nat) (d:Tmp) (F:Ad→Value→Prop):Prop where
 ex:∃ o,lo[k]? = some o∧o.dst=some d∧D7 o=false∧Region.wanted o (yielded lo.toArray l.toArray)=true∧Px P S M l o F
abbrev Oz:=Nat×Tmp×(Ad→Value→Prop)
variable {S:Ad} {M:List J} {l:List Value}
end
section
variable {P:Program} {lo:List Oper} {Q:Exit→Act→World→Prop} {S:Ad} {M:List J} {l:List Value}
theorem Sls.mono {S S'} (hS:S.Le S') {vs xs} (h:Sls S vs xs):Sls S' vs xs:=by
 induction h with
 | nil=>exact .nil
 | cons h _ ih=>exact .cons (h.mono hS) ih
abbrev AS (xs:List (List UInt8)):Ad→Value→Prop:=fun S v=>RSl S v xs∧v.oneCell'=true
def LV:List Oz→Prop
 | []=>True
 | b::r=>(∀ S S' v,S.Le S'→b.2.2 S v→b.2.2 S' v)∧LV r
def NV (P:Program) (lo:List Oper) (S:Ad) (M:List J) (l:List Value):List Oz→Prop
 | []=>True
 | b::r=>aD P lo S M l b.1 b.2.1 b.2.2∧NV P lo S M l r
def Ku (S:Ad) (vs:Nat→Value):List Oz→Prop
 | []=>True
 | b::r=>b.2.2 S (vs b.1)∧Ku S vs r
theorem LV.all:∀ {bag:List Oz},LV bag→∀ b∈bag,∀ S S' v,S.Le S'→b.2.2 S v→b.2.2 S' v
 | _::_,h,_,.head _=>h.1
 | _::_,h,_,.tail _ hb=>LV.all h.2 _ hb
theorem NV.all:∀ {bag:List Oz},NV P lo S M l bag→∀ b∈bag,aD P lo S M l b.1 b.2.1 b.2.2
 | _::_,h,_,.head _=>h.1
 | _::_,h,_,.tail _ hb=>NV.all h.2 _ hb
theorem Ku.mk:∀ {bag:List Oz} {S:Ad} {vs:Nat→Value},(∀ b∈bag,b.2.2 S (vs b.1))→Ku S vs bag
 | [],_,_,_=>trivial
 | b::_,_,_,h=>⟨h b (.head _),Ku.mk fun c hc=>h c (.tail _ hc)⟩
end
variable {P:Program} {S:Ad} {M:List J} {w:World}
theorem Z9 (B Lqq:List J) (a C):(B++(Lqq++(a::C))).Perm (a::(B++(Lqq++C))) :=
 (List.Perm.append_left B List.perm_middle).trans List.perm_middle
theorem Yg {g ps assign body} {Q:Exit→Act→World→Prop} {l D gf lb Nqq} {ok:Nat→List Value→Prop} (I:Nat→List J) (M0) (V:St S (I 0++M0) w) (hg:Ai l g=.func (.func gf) #[] lb.toArray) (hb:Body P gf) (hit:LU P S gf lb Nqq ok) (hps:∀ k vs,ok k vs→vs.length=ps.size) (okA:Nat→Act→List J→Prop) (hassign:∀ (r k:Nat) (vs:List Value) (C:List J) (W:World) (K:Act→World→Prop),k < Nqq→ok k vs→St S (I k++C) W→(∀ a' B W',okA k a' B→St S (B++(I k++C)) W'→K a' W')→assign.wpIn (Fence.wide.inRound r) 0 P (Exit.then K (fun _ _ _=>False)) { tmps:=(ps.zip vs.toArray).foldl (fun t (p,v)=>t.setIfInBounds p v) l.toArray,defers:=[] } W) (hbody:∀ (r k:Nat) (a':Act) (B:List J) (C:List J) (W:World),k < Nqq→okA k a' B→St S (B++(I k++C)) W→body.wpIn (Fence.wide.inRound r) 0 P (fun e _ W'=>e=.normal∧St S (I (k+1)++C) W') a' W) (hdone:∀ (d:Nat) (W:World),St S (.obj d (.deferred (some []))::(I Nqq++M0)) W→Q .normal ⟨l.toArray,{ target:=.collected d,args:=#[] }::D⟩ W):
  (Code.rangeFunc g ps assign body).wp P Q ⟨l.toArray,D⟩ w:=by
 refine (wpIn_wide (n:=0)).1 (wpIn_rangeFunc ?_);intro fn hfn;obtain ⟨rec,hrec⟩:∃ rec:LoopState→Option Code→Loop,rec=fun st pe=>{ state:=st,pending:=pe,fn,tmps:=l.toArray,params:=ps,assign,body,defers:=w.heap.size }:=⟨_,rfl⟩
 obtain ⟨W1,hW1⟩:∃ W1,(w.alloc (.deferred (some []))).alloc (.loop (rec .ready none))=W1:=⟨_,rfl⟩
 have hst1:St S (.obj (w.heap.size+1) (.loop (rec .ready none))::.obj w.heap.size (.deferred (some []))::(I 0++M0)) W1:=by
  rw [← hW1];have:=(V.allocObj (.deferred (some []))).allocObj (.loop (rec .ready none));rwa [World.size_alloc] at this
 refine ⟨w.heap.size+1,[{ target:=.collected w.heap.size,args:=#[] }],W1,{ target:=.fn (.func gf) lb.toArray,args:=#[.func (.yield (w.heap.size+1)) #[] #[]] },W1,gf,
  (.func (.yield (w.heap.size+1)) #[] #[]::lb).toArray,W1,?_,?_,fun _ _=>trivial,?_,(fun h=>by cases h),?_⟩
 ·rw [← hW1,hrec];exact run_enterLoop_outer _ _ _ _ _
 ·simp only [resolve,Di,hg];simp [go_sem,Ai]
 ·have:=hb.enter (w:=W1) (.func (.yield (w.heap.size+1)) #[] #[]::lb).toArray;simp only [invoke]
  simpa using this
 ·refine callsIn_wide.2 (Calls.mono (hit (w.heap.size+1) (fun k=>.obj (w.heap.size+1) (.loop (rec .ready none))::.obj w.heap.size (.deferred (some []))::(I k++M0)) ?_ W1 hst1) ?_)
  ·intro k hk vs hvs W hW;have hl:W.heap[w.heap.size+1]? = some (.loop (rec .ready none)):=hW.at_ _ (.head _);have hlen:=hps k vs hvs;have hy:=run_yield (P:=P) (args:=vs.toArray) hl (by rw [hrec];simpa using hlen);rw [hrec] at hy;refine ⟨fn,_,assign,body,hy,Fu (n:=0) (roundIn_of_wpIn hfn (hassign _ k vs _ W _ hk hvs (hW.perm (Kk _ _ _ _)) fun a' B W' hA hst0=>?_))⟩;have hst0':=hst0.perm (Z9 B (I k) _ _);have hl':W'.heap[w.heap.size+1]? = some (.loop (rec .ready none)):=hst0'.at_ _ (.head _);refine ⟨_,run_beginRound hl' (by rw [hrec]),?_⟩;have hst2:=(hst0'.putObj (o':=.loop { rec .ready none with state:=.busy })).perm (Z9 B (I k) _ _).symm;refine wpIn_mono (hbody _ k a' B _ _ hk hA hst2) ?_;rintro e a3 W3 ⟨rfl,hst3⟩;have hst4:=hst3.perm (Kk _ _ _ _).symm;have hl3:W3.heap[w.heap.size+1]? = some (.loop { rec .ready none with state:=.busy }):=hst4.at_ _ (.head _);have hr:=run_endRound (P:=P) none hl3;refine ⟨_,_,hr,rfl,?_⟩;have:=hst4.putObj (o':=.loop (rec .ready none));rw [hrec] at this ⊢;exact this
  ·rintro e W2 ⟨⟨v,rfl⟩,hst2⟩;have hl:W2.heap[w.heap.size+1]? = some (.loop (rec .ready none)):=hst2.at_ _ (.head _);have hr:=run_endLoop (P:=P) hl (by rw [hrec];simp);rw [hrec] at hr;refine ⟨none,_,hr,hdone _ _ ?_⟩;exact (hst2.putObj (o':=.loop _)).drop
variable {P:Program} {S:Ad} {M:List J} {w:World}
theorem Yf {g p d id T z zero bb ty1 ty2 pos1 pos2 af1 af2 body} {Q:Exit→Act→World→Prop} {l D gf lb Nqq} {ok:Nat→List Value→Prop} (I:Nat→List J) (M0) (V:St S (I 0++M0) w) (hg:Ai l g=.func (.func gf) #[] lb.toArray) (hb:Body P gf) (hit:LU P S gf lb Nqq ok) (hT:Ty P T true z zero bb) (hps:∀ k vs,ok k vs→∃ cs:List Value,vs=[.agg cs.toArray]∧cs.length=z∧cs.all (·.oneCell')=true) (L:p < l.length) (hd:d < l.length) (hne:p≠d) (hbody:∀ (r k b:Nat) (cs:List Value) (C:List J) (W:World),k < Nqq→ok k [.agg cs.toArray]→St S (.box b cs T::(I k++C)) W→body.wpIn (Fence.wide.inRound r) 0 P (fun e _ W'=>e=.normal∧St S (I (k+1)++C) W') ⟨((l.set p (.agg cs.toArray)).set d (.pointer (some ⟨b,0,none⟩))).toArray,[]⟩ W) (hdone:∀ (d:Nat) (W:World),St S (.obj d (.deferred (some []))::(I Nqq++M0)) W→Q .normal ⟨l.toArray,{ target:=.collected d,args:=#[] }::D⟩ W):
  (Code.rangeFunc g #[p] (Code.region id #[⟨some d,.alloc T,ty1,pos1,af1,none⟩,⟨none,.store T (.tmp d) (.tmp p),ty2,pos2,af2,none⟩] false) body).wp P Q ⟨l.toArray,D⟩ w:=by
 refine Yg I M0 V hg hb hit (fun k vs h=>by obtain ⟨cs,rfl,_⟩:=hps k vs h;rfl)
  (fun k a' B=>∃ (cs:List Value) (b:Nat),ok k [.agg cs.toArray]∧B=[.box b cs T]∧a'=⟨((l.set p (.agg cs.toArray)).set d (.pointer (some ⟨b,0,none⟩))).toArray,[]⟩) ?_ ?_ hdone
 ·intro r k vs C W K hk hok V G;obtain ⟨cs,rfl,hl,h1⟩:=hps k vs hok;have e:((#[p].zip [Value.agg cs.toArray].toArray).foldl (fun t (x:Tmp×Value)=>t.setIfInBounds x.1 x.2) l.toArray)=(l.set p (.agg cs.toArray)).toArray:=by simp
  show Code.wpIn _ _ _ _ _ { tmps:=(#[p].zip [Value.agg cs.toArray].toArray).foldl (fun t (x:Tmp×Value)=>t.setIfInBounds x.1 x.2) l.toArray,defers:=[] } W;rw [e];refine Fw (l:=[⟨some d,.alloc T,ty1,pos1,af1,none⟩,⟨none,.store T (.tmp d) (.tmp p),ty2,pos2,af2,none⟩]) (.inr ⟨r,rfl⟩) ?_ rfl ?_
  ·rintro ⟨a,w,h⟩;exact h
  ·refine BF V hT fun b w' hst'=>?_
   have e1:AV ((l.set p (Value.agg cs.toArray)).set d (.pointer (some ⟨b,0,none⟩))) d=.pointer (some ⟨b,0,none⟩):=by rw [EI];simp [hd]
   have e2:AV ((l.set p (Value.agg cs.toArray)).set d (.pointer (some ⟨b,0,none⟩))) p=.agg cs.toArray:=by
    have hne':=Ne.symm hne;rw [EI];simp [L,hne']
   refine Ax hst' (b:=b) (off:=0) e1 0 rfl hT e2 (cs:=cs) rfl hl h1 (by rw [hT.len_];omega) fun w2 hst2=>?_
   refine G _ [.box b cs T] w2 ⟨cs,b,hok,rfl,rfl⟩ ?_;have hz:zero.length=z:=hT.len_;have e3:List.take 0 zero++cs++List.drop (0+z) zero=cs:=by rw [List.take_zero,List.nil_append,List.drop_of_length_le (by omega),List.append_nil]
   have:St S (.box b (List.take 0 zero++cs++List.drop (0+z) zero) T::(I k++C)) w2:=hst2;rw [e3] at this;exact this
 ·rintro r k a' B C W hk ⟨cs,b,hok,rfl,rfl⟩ V;exact hbody r k b cs C W hk hok V
variable {P:Program} {S:Ad} {M:List J} {w:World}
abbrev Q9:=Ad→List J→Prop
def Hj (P:Program) (S:Ad) (gf:FuncId) (lb:List Value) (Nqq:Nat) (ok:Nat→List Value→Prop) (go:Nat→Prop) (A:Nat→List J):Prop :=
 ∀ (l:Nat) (Jqq:Nat→Q9) (Xqq:Q9),
  (∀ k,k < Nqq→∀ vs,ok k vs→∀ (S':Ad) (M C:List J) (W:World),S.Le S'→Jqq k S' M→St S' (A k++(M++C)) W→YieldAt Fence.wide 0 P l vs.toArray W fun e W' =>
   (e=.returned (.bool true)∧go k∧∃ S'' M',S'.Le S''∧Jqq (k+1) S'' M'∧St S'' (A k++(M'++C)) W')∨(e=.returned (.bool false)∧∃ S'' M',S'.Le S''∧Xqq S'' M'∧St S'' (A k++(M'++C)) W')) →
  ∀ (S':Ad) (M:List J) (W:World),S.Le S'→Jqq 0 S' M→St S' (A 0++M) W→Calls P gf (.func (.yield l) #[] #[]::lb).toArray W fun e W'=>(∃ v,e=.returned v) ∧
   ∃ S'' M',S'.Le S''∧((Jqq Nqq S'' M'∧St S'' (A Nqq++M') W')∨(Xqq S'' M'∧∃ k,k < Nqq∧St S'' (A k++M') W'))
theorem Hj.mono {S S' gf lb Nqq} {ok:Nat→List Value→Prop} {go:Nat→Prop} {A} (hS:S.Le S') (h:Hj P S gf lb Nqq ok go A):Hj P S' gf lb Nqq ok go A :=
 fun l Jqq Xqq hY S2 M W hS2=>h l (fun k T M=>S'.Le T∧Jqq k T M) (fun T M=>Xqq T M)
  (fun k hk vs hvs T M C W hT hJ V=>by
   obtain ⟨fn,tm,ac,bd,h1,h2⟩:=hY k hk vs hvs T M C W hJ.1 hJ.2 V;refine ⟨fn,tm,ac,bd,h1,h2.mono ?_⟩;rintro e W' (⟨h1,h2,T2,M2,h3,h4,h5⟩|h)
   ·exact .inl ⟨h1,h2,T2,M2,h3,⟨hJ.1.trans h3,h4⟩,h5⟩
   ·exact .inr h)
  S2 M W (hS.trans hS2) |> fun g hJ V=>Calls.mono (g ⟨hS2,hJ⟩ V) fun e W' ⟨h1,T2,M2,h3,h4⟩=>⟨h1,T2,M2,h3,h4.imp (fun h=>⟨h.1.2,h.2⟩) id⟩
theorem G7 (Lqq A M:List J):(Lqq++(A++M)).Perm (A++(Lqq++M)):=by
 rw [← List.append_assoc,← List.append_assoc];exact List.Perm.append_right M List.perm_append_comm
theorem TI (A M C:List J) (a b):(A++((a::b::M)++C)).Perm (a::b::(A++(M++C))):=G7 A [a,b] (M++C)
theorem iJ (B A M C:List J) (a b):(a::(B++(b::(A++(M++C))))).Perm (B++(A++(M++(a::b::C)))):=by
 refine List.perm_middle.symm.trans (List.Perm.append_left B ?_);refine (G7 [a,b] A (M++C)).trans (List.Perm.append_left A ?_);exact G7 [a,b] M C
theorem Z8 (A M C:List J) (a b):(A++(M++(a::b::C))).Perm (a::b::(A++(M++C))) :=
 (List.Perm.append_left A (G7 M [a,b] C)).trans (G7 A [a,b] (M++C))
theorem TK (A Lqq M C:List J):(A++((Lqq++M)++C)).Perm (Lqq++(A++(M++C))):=by
 rw [List.append_assoc];exact G7 A Lqq (M++C)
theorem TJ (Lqq E A M C:List J):(Lqq++(E++(A++(M++C)))).Perm (E++(A++(M++(Lqq++C)))):=by
 have:=G7 Lqq (E++(A++M)) C
 simpa [List.append_assoc] using this
theorem PM {g ps assign body} {Q:Exit→Act→World→Prop} {l D gf lb Nqq} {ok:Nat→List Value→Prop} {go:Nat→Prop} {A} (Jqq:Nat→Q9) (Xqq:Q9) {M0} (V:St S (A 0++M0) w) (hJ0:Jqq 0 S M0) (hg:Ai l g=.func (.func gf) #[] lb.toArray) (hb:Body P gf) (hit:Hj P S gf lb Nqq ok go A) (hps:∀ k vs,ok k vs→vs.length=ps.size) (okA:Nat→Act→List J→Prop) (hassign:∀ (r k:Nat) (vs:List Value) (S':Ad) (M:List J) (W:World) (K:Act→World→Prop),k < Nqq→ok k vs→S.Le S'→St S' M W→(∀ a' B W',okA k a' B→St S' (B++M) W'→K a' W')→assign.wpIn (Fence.wide.inRound r) 0 P (Exit.then K (fun _ _ _=>False)) { tmps:=(ps.zip vs.toArray).foldl (fun t (p,v)=>t.setIfInBounds p v) l.toArray,defers:=[] } W) (hbody:∀ (r k:Nat) (a':Act) (B:List J) (S':Ad) (M C:List J) (W:World),k < Nqq→okA k a' B→S.Le S'→Jqq k S' M→St S' (B++(A k++(M++C))) W→body.wpIn (Fence.wide.inRound r) 0 P (fun e _ W' =>
   (e=.normal∧go k∧∃ S'' M',S'.Le S''∧Jqq (k+1) S'' M'∧St S'' (A k++(M'++C)) W')∨(e=.ret∧∃ S'' M',S'.Le S''∧Xqq S'' M'∧St S'' (A k++(M'++C)) W')) a' W) (hdone:∀ (d:Nat) (S':Ad) (M:List J) (W:World),S.Le S'→Jqq Nqq S' M→St S' (.obj d (.deferred (some []))::(A Nqq++M)) W→Q .normal ⟨l.toArray,{ target:=.collected d,args:=#[] }::D⟩ W) (hstop:∀ (d k:Nat) (S':Ad) (M:List J) (W:World),k < Nqq→S.Le S'→Xqq S' M→St S' (.obj d (.deferred (some []))::(A k++M)) W→Q .ret ⟨l.toArray,{ target:=.collected d,args:=#[] }::D⟩ W):
  (Code.rangeFunc g ps assign body).wp P Q ⟨l.toArray,D⟩ w:=by
 refine (wpIn_wide (n:=0)).1 (wpIn_rangeFunc ?_);intro fn hfn;obtain ⟨rec,hrec⟩:∃ rec:LoopState→Option Code→Loop,rec=fun st pe=>{ state:=st,pending:=pe,fn,tmps:=l.toArray,params:=ps,assign,body,defers:=w.heap.size }:=⟨_,rfl⟩
 obtain ⟨W1,hW1⟩:∃ W1,(w.alloc (.deferred (some []))).alloc (.loop (rec .ready none))=W1:=⟨_,rfl⟩
 have hst1:St S (.obj (w.heap.size+1) (.loop (rec .ready none))::.obj w.heap.size (.deferred (some []))::(A 0++M0)) W1:=by
  rw [← hW1];have:=(V.allocObj (.deferred (some []))).allocObj (.loop (rec .ready none));rwa [World.size_alloc] at this
 obtain ⟨n,hn⟩:∃ n,w.heap.size=n:=⟨_,rfl⟩
 rw [hn] at hst1 hrec
 refine ⟨n+1,[{ target:=.collected n,args:=#[] }],W1,{ target:=.fn (.func gf) lb.toArray,args:=#[.func (.yield (n+1)) #[] #[]] },W1,gf,
  (.func (.yield (n+1)) #[] #[]::lb).toArray,W1,?_,?_,fun _ _=>trivial,?_,(fun h=>by cases h),?_⟩
 ·rw [← hW1,hrec,← hn];exact run_enterLoop_outer _ _ _ _ _
 ·simp only [resolve,Di,hg];simp [go_sem,Ai]
 ·have:=hb.enter (w:=W1) (.func (.yield (n+1)) #[] #[]::lb).toArray;simp only [invoke]
  simpa using this
 ·have goes:=hit (n+1) (fun k S' M=>∃ M1,M=.obj (n+1) (.loop (rec .ready none))::.obj n (.deferred (some []))::M1∧Jqq k S' M1)
   (fun S' M=>∃ M1,M=.obj (n+1) (.loop (rec .done (some .ret)))::.obj n (.deferred (some []))::M1∧Xqq S' M1) ?_ S _ W1 (Ad.Le.refl S) ⟨M0,rfl,hJ0⟩ (hst1.perm (Kk _ _ _ _))
  ·refine callsIn_wide.2 (Calls.mono goes ?_);rintro e W2 ⟨⟨v,rfl⟩,S2,M2,hS2,⟨⟨M1,rfl,hJ⟩,hst2⟩|⟨⟨M1,rfl,hX⟩,k,hk,hst2⟩⟩
   ·have hst2:=hst2.perm (Kk _ _ _ _).symm;have hl:W2.heap[n+1]? = some (.loop (rec .ready none)):=hst2.at_ _ (.head _);have hr:=run_endLoop (P:=P) hl (by rw [hrec];simp);rw [hrec] at hr;refine ⟨none,_,hr,hdone n S2 M1 _ hS2 hJ ?_⟩;exact (hst2.putObj (o':=.loop _)).drop
   ·have hst2:=hst2.perm (Kk _ _ _ _).symm;have hl:W2.heap[n+1]? = some (.loop (rec .done (some .ret))):=hst2.at_ _ (.head _);have hr:=run_endLoop (P:=P) hl (by rw [hrec];simp);rw [hrec] at hr;refine ⟨some .ret,_,hr,wpIn_ret (hstop n k S2 M1 _ hk hS2 hX ?_)⟩;exact (hst2.putObj (o':=.loop _)).drop
  ·rintro k hk vs hvs S' M C W hS' ⟨M1,rfl,hJ⟩ hW;have hW:=hW.perm (TI (A k) M1 C _ _);have hl:W.heap[n+1]? = some (.loop (rec .ready none)):=hW.at_ _ (.head _);have hlen:=hps k vs hvs;have hy:=run_yield (P:=P) (args:=vs.toArray) hl (by rw [hrec];simpa using hlen);rw [hrec] at hy;refine ⟨fn,_,assign,body,hy,Fu (n:=0) (roundIn_of_wpIn hfn (hassign _ k vs S' _ W _ hk hvs hS' hW fun a' B W' hA hst0=>?_))⟩;have hst0':=hst0.perm (List.perm_middle (a:=.obj (n+1) (.loop (rec .ready none))) (l₁:=B));have hl':W'.heap[n+1]? = some (.loop (rec .ready none)):=hst0'.at_ _ (.head _);refine ⟨_,run_beginRound hl' (by rw [hrec]),?_⟩;have hst2:=(hst0'.putObj (o':=.loop { rec .ready none with state:=.busy })).perm (iJ B (A k) M1 C _ _);refine wpIn_mono (hbody _ k a' B S' M1 _ _ hk hA hS' hJ hst2) ?_;rintro e a3 W3 (⟨rfl,hgo,S3,M3,hS3,hJ3,hst3⟩|⟨rfl,S3,M3,hS3,hX3,hst3⟩)
   ·have hst4:=hst3.perm (Z8 (A k) M3 C _ _);have hl3:W3.heap[n+1]? = some (.loop { rec .ready none with state:=.busy }):=hst4.at_ _ (.head _);have hr:=run_endRound (P:=P) none hl3;refine ⟨_,_,hr,.inl ⟨rfl,hgo,S3,_,hS3,⟨M3,rfl,hJ3⟩,?_⟩⟩;have:=(hst4.putObj (o':=.loop (rec .ready none))).perm (TI (A k) M3 C _ _).symm;rw [hrec] at this ⊢;exact this
   ·have hst4:=hst3.perm (Z8 (A k) M3 C _ _);have hl3:W3.heap[n+1]? = some (.loop { rec .ready none with state:=.busy }):=hst4.at_ _ (.head _);have hr:=run_endRound (P:=P) (some .ret) hl3;refine ⟨_,_,hr,.inr ⟨rfl,S3,_,hS3,⟨M3,rfl,hX3⟩,?_⟩⟩;have:=(hst4.putObj (o':=.loop (rec .done (some .ret)))).perm (TI (A k) M3 C _ _).symm;rw [hrec] at this ⊢;exact this
theorem Sj {Q:Exit→Act→World→Prop} (h:¬ LetsOut Q:=by with_unfolding_all (rintro ⟨a,w,h⟩;rcases h with ⟨h,_⟩|⟨h,_⟩<;>cases h)):¬ LetsOut Q:=h
theorem VJ {fn} {R:Ending→World→Prop} {l:List Value} {d} (V:St S (.obj d (.deferred (some []))::M) w) (hr:fn.results = #[]) (hR:∀ w',St S M w'→R (.returned (.tuple #[])) w'):bodyPostM Fence.wide 0 P fn R .ret ⟨l.toArray,[{ target:=.collected d,args:=#[] }]⟩ w:=by
 have hk:w.heap[d]? = some (.deferred (some [])):=V.at_ _ (.head _);have hst':=(V.putObj (o':=.deferred none)).drop;refine ⟨by simp,.inl ⟨d,_,rfl,run_takeDeferred hk,?_⟩⟩;refine ⟨.tuple #[],?_,hR _ hst'⟩;simp [results,hr]
theorem WE {fn} {R:Ending→World→Prop} {l:List Value} {d} (V:St S (.obj d (.deferred (some []))::M) w) (hr:fn.results = #[]) (hR:∀ w',St S M w'→R (.returned (.tuple #[])) w'):bodyPostM Fence.wide 0 P fn R .normal ⟨l.toArray,[{ target:=.collected d,args:=#[] }]⟩ w:=by
 have hk:w.heap[d]? = some (.deferred (some [])):=V.at_ _ (.head _);have hst':=(V.putObj (o':=.deferred none)).drop;refine ⟨by simp,.inl ⟨d,_,rfl,run_takeDeferred hk,?_⟩⟩;refine ⟨.tuple #[],?_,hR _ hst'⟩;simp [results,hr]
theorem J0 {F n l args W} {A B:World→Prop} (h:YieldAt F n P l args W fun e W'=>(e=.returned (.bool true)∧A W')∨(e=.returned (.bool false)∧B W')):
  YieldAt F n P l args W fun e W'=>∃ v,e=.returned v∧((v=.bool true∧A W')∨(v=.bool false∧B W')):=by
 obtain ⟨fn,tm,ac,bd,h1,h2⟩:=h;refine ⟨fn,tm,ac,bd,h1,h2.mono ?_⟩;rintro e W' (⟨h1,h2⟩|⟨h1,h2⟩)
 ·exact ⟨_,h1,.inl ⟨rfl,h2⟩⟩
 ·exact ⟨_,h1,.inr ⟨rfl,h2⟩⟩
theorem Ry {F n ops} {Q:Exit→Act→World→Prop} {rest dst op ty pos af g a} (hg:yielded ops a.tmps g.1=some g.2) (h:wpListIn F n P ops Q (⟨dst,op,ty,pos,af,none⟩::rest) a w):wpListIn F n P ops Q (⟨dst,op,ty,pos,af,some g⟩::rest) a w:=by
 unfold wpListIn at h ⊢;rw [if_pos (by simp [Region.wanted,hg])];rw [if_pos (by simp [Region.wanted])] at h;exact h
theorem Lc {F} (hF:Wd F) {ops} {Q:Exit→Act→World→Prop} {l D rest d x} {xs:List Operand} {ats ty pos af r vs} {C:Value→World→Prop} (hx:Ai l x=.func (.yield r) #[] #[]) (ha:xs.map (Ai l)=vs) (hy:YieldAt Fence.wide 0 P r vs.toArray w fun e w'=>∃ v,e=.returned v∧C v w') (h:∀ v w',C v w'→wpListIn F 0 P ops Q rest ⟨(l.set d v).toArray,D⟩ w'):
  wpListIn F 0 P ops Q (⟨some d,.call { callee:=.value x,args:=xs.toArray,argTypes:=ats },ty,pos,af,none⟩::rest) ⟨l.toArray,D⟩ w:=by
 obtain ⟨fn,tmps,assign,body,hr,hR⟩:=hy;subst ha;refine wpListIn_plain rfl fun K G=>⟨fun _ _=>hF.fn _,?_⟩
 have hrun:(execOp (Ai l) ⟨some d,.call { callee:=.value x,args:=xs.toArray,argTypes:=ats },ty,pos,af,none⟩).run P w=.ok (.round r fn tmps assign body) w:=by
  have e:Array.map (Ai l) xs.toArray=(xs.map (Ai l)).toArray:=by simp
  simp only [execOp,resolve,hx,Deferred.ofValue,Sem.run_bind,Sem.run_pure,Result.andThen_ok,invoke,e,Array.append_empty,Array.empty_append];exact hr
 rw [Oper.semAt_eq _ _ _ (by intro c;simp),Di,hrun];refine ⟨(fun h=>by rw [hF.depth] at h;cases h),?_⟩;have h2:=Fu (n:=0) (m:=0) (hR.mono (R':=fun e w'=>(∃ v,e=.returned v∧K ((⟨l.toArray,D⟩:Act).put (some d) v) w')) ?_)
 ·have h3:RoundIn F 0 P r fn tmps assign body w (fun e w'=>∃ v,e=.returned v∧K ((⟨l.toArray,D⟩:Act).put (some d) v) w'):=by rcases hF with rfl|⟨r0,rfl⟩<;>exact h2
  refine h3.mono ?_;rintro e w' ⟨v,rfl,hv⟩;exact hv
 ·rintro e w' ⟨v,rfl,hC⟩;refine ⟨v,rfl,G _ _ ?_⟩;have:=h v w' hC
  simpa [Act.put] using this
theorem Wn {r0 ops} {Q:Exit→Act→World→Prop} {l D rest d x} {xs:List Operand} {ats ty pos af r vs} {C:Value→World→Prop} (hx:Ai l x=.func (.yield r) #[] #[]) (ha:xs.map (Ai l)=vs) (hy:YieldAt Fence.wide 0 P r vs.toArray w fun e w'=>∃ v,e=.returned v∧C v w') (h:∀ v w',C v w'→wpListIn (Fence.wide.inRound r0) 0 P ops Q rest ⟨(l.set d v).toArray,D⟩ w'):
  wpListIn (Fence.wide.inRound r0) 0 P ops Q (⟨some d,.call { callee:=.value x,args:=xs.toArray,argTypes:=ats },ty,pos,af,none⟩::rest) ⟨l.toArray,D⟩ w:=Lc (.inr ⟨r0,rfl⟩) hx ha hy h
section
variable {F:Fence} {nn:Nat} {ops:Array Oper} {md:Region.Mode} {C:World→Prop} {Q:Exit→Act→World→Prop}
theorem bM (hF:Wd F) {o:Oper} {a v} {K:Act→World→Prop} (hd:∀ c,o.op≠.defer c) (hw:C w) (hq:o.quietAt P a C w v) (G:∀ w',C w'→K (a.put o.dst v) w'):o.wpIn F nn P a w K Q:=by
 refine ⟨fun f _=>hF.fn f,?_⟩;rw [Oper.semAt_eq _ _ _ hd];have hn:F.depth.isSome=true→1≤nn:=by rw [hF.depth];intro h;cases h
 unfold Oper.quietAt at hq;generalize (execOp a.eval o).run P w=r at hq ⊢
 cases r with
 | ok x w' =>
  cases x<;>simp only [Oper.quietUpon] at hq
  case value u=>obtain ⟨rfl,rfl⟩:=hq;exact G _ hw
  case skip=>obtain ⟨rfl,rfl⟩:=hq;exact G _ hw
  case enter f args =>
   obtain ⟨rfl,hc⟩:=hq;refine ⟨hn,hF.calls (Calls.mono hc fun e w'' he=>?_)⟩;obtain ⟨rfl,hC⟩:=he;exact G _ hC
 | halt x w'=>simp only [Oper.quietUpon] at hq
theorem fA (hF:Wd F) (hd:Ei ops.toList=true) {i:Nat} {rest:List Nat} {K:Act→Prop} {a:Act} (hw:C w) (G:∀ a w,C w→K a→wpOpsIn F nn P ops Q rest a w) (h:qOp P ops C i K a):wpOpsIn F nn P ops Q (i::rest) a w:=by
 unfold wpOpsIn;unfold qOp at h
 cases ho:ops[i]? with
 | none=>rw [ho] at h;exact G _ _ hw h
 | some o =>
  rw [ho] at h
  have hd1:∀ c,o.op≠.defer c:=fun c e=>by
   have:=List.all_eq_true.1 hd o (by rw [Array.mem_toList_iff];exact Array.mem_of_getElem? ho);simp only [e] at this;exact absurd this (by decide)
  simp only at h ⊢;by_cases hwt:Region.wanted o (yielded ops a.tmps)=true
  ·rw [if_pos hwt] at h ⊢;obtain ⟨v,h1,h2⟩:=h;exact bM hF hd1 hw (h1 w hw) fun w' hw'=>G _ _ hw' h2
  ·rw [if_neg hwt] at h ⊢;exact ⟨fun f _=>hF.fn f,G _ _ hw h⟩
theorem Ss {f t:Nat} {d:Array Bool}:Region.linearise.go md ops (f+1) t d []=match (Region.ready md ops d)[t % (Region.ready md ops d).length]? with
  | some i=>i::Region.linearise.go md ops f (t / (Region.ready md ops d).length) (d.setIfInBounds i true) []
  | none=>[]:=by
 simp only [Region.linearise.go]
 change (match (Region.ready md ops d)[t % (Region.ready md ops d).length]? with
  | some i=>Region.linearise.go md ops f (t / (Region.ready md ops d).length) (d.setIfInBounds i true) [i]
  | none=>[].reverse)=_
 cases (Region.ready md ops d)[t % (Region.ready md ops d).length]? with
 | none=>rfl
 | some i=>simp only [];rw [linearise_go_acc];rfl
theorem Na {d} (hne:Region.ready md ops d≠[]) (t):∃ i,(Region.ready md ops d)[t % (Region.ready md ops d).length]? = some i∧i∈Region.ready md ops d:=by
 have hpos:0 < (Region.ready md ops d).length:=List.length_pos_iff.2 hne;have hlt:t % (Region.ready md ops d).length < (Region.ready md ops d).length:=Nat.mod_lt _ hpos;exact ⟨_,List.getElem?_eq_getElem hlt,List.getElem_mem hlt⟩
theorem Qx (hF:Wd F) (hd:Ei ops.toList=true) {n g:Nat} {Lqq:Array Bool→Act→Prop} (hL:∀ t d a w,C w→Lqq d a→wpOpsIn F nn P ops Q (Region.linearise.go md ops g t d []) a w) :
  ∀ (f t:Nat) (d:Array Bool) (a:Act) (w:World),C w→LI P md ops C n Lqq f d a→wpOpsIn F nn P ops Q (Region.linearise.go md ops (f+g) t d []) a w
 | 0,t,d,a,w,hw,h=>by rw [Nat.zero_add];exact hL _ _ _ _ hw h
 | f+1,t,d,a,w,hw,h=>by
  obtain ⟨i,hi,him⟩:=Na h.1 t;rw [show f+1+g=(f+g)+1 by omega,Ss,hi];exact fA hF hd hw (fun a w hw h=>Qx hF hd hL f _ _ a w hw h) (h.2 i him).2
theorem Vt:∀ (l:List Oper) (k t:Nat) (d:Array Bool) (a:Act) (w:World),(∀ j,l[j]? = ops[k+j]?)→Region.seqB md ops l.length k d=true→wpListIn F nn P ops Q l a w→wpOpsIn F nn P ops Q (Region.linearise.go md ops l.length t d []) a w
 | [],_,_,_,_,_,_,_,h=>by simpa [Region.linearise.go,wpOpsIn,wpListIn] using h
 | o::l,k,t,d,a,w,hl,hB,h=>by
  have h0:ops[k]? = some o:=by simpa using (hl 0).symm
  simp only [List.length_cons,Region.seqB,Bool.and_eq_true,decide_eq_true_eq] at hB;obtain ⟨i,hi,him⟩:=Na (md:=md) (ops:=ops) (d:=d) (by rw [hB.1];simp) t;have hik:i=k:=by rw [hB.1] at him;simpa using him
  subst hik;rw [List.length_cons,Ss,hi]
  have IH:∀ t a w,wpListIn F nn P ops Q l a w→wpOpsIn F nn P ops Q (Region.linearise.go md ops l.length t (d.setIfInBounds i true) []) a w :=
   fun t a w=>Vt l (i+1) t _ a w (fun j=>by have:=hl (j+1);simpa [Nat.add_assoc,Nat.add_comm 1 j] using this) hB.2
  unfold wpListIn at h;unfold wpOpsIn;rw [h0];simp only;split
  ·rename_i hw;rw [if_pos hw] at h;exact Oper.wpIn_mono (fun a w=>IH _ a w) h
  ·rename_i hw;rw [if_neg hw] at h;exact ⟨h.1,IH _ _ _ h.2⟩
end
theorem HH {F} (hF:Wd F) {nn id lo} {Q:Exit→Act→World→Prop} {l:List Value} {D} (n) (V:St S M w) (hm:P.follows .mixedOrders=true) (hd:Ei lo=true) (hB:Region.lexTailB .any lo.toArray n=true) (h:wpQuiet P lo.toArray (St S M) (fun a'=>∀ w',St S M w'→wpListIn F nn P lo.toArray Q (lo.drop n) a' w') (lo.take n) ⟨l.toArray,D⟩):(Code.region id lo.toArray true).wpIn F nn P Q ⟨l.toArray,D⟩ w:=by
 simp only [Region.lexTailB,Bool.and_eq_true,decide_eq_true_eq] at hB;obtain ⟨⟨⟨⟨hsel,hn⟩,hs⟩,hc⟩,hlex⟩:=hB;have hn':n < lo.length:=by simpa using hn
 have htl:(lo.take n).length=n:=by simp;omega
 have inv:HeadInv .any lo.toArray n (Array.replicate lo.toArray.size false) :=
  ⟨by simp,fun j oj _ hl=>(by rw [getD_replicate_false] at hl;cases hl),fun t _ ht=>getD_in (by simpa using ht) (getD_replicate_false _ _)⟩
 have H:=Ld (md:=.any) (g:=lo.toArray.size - n) hsel hs hc hn (lo.take n) 0 _ _ (fun j hj=>by
  have hj':j < n:=by rw [htl] at hj;exact hj
  simp [hj']) (by simpa using htl) inv (by rw [htl];exact hlex) h
 refine wpIn_region_draw fun t=>?_
 simp only [Region.schedule,hm,Bool.true_or,if_true,Region.linearise]
 have K:=Qx (F:=F) (nn:=nn) (Q:=Q) hF (by simpa using hd) (g:=lo.toArray.size - n) (fun t d a' w' hw' hL=>by
  have:=Vt (md:=.any) (F:=F) (nn:=nn) (Q:=Q) (lo.drop n) n t d a' w' (fun j=>by simp [List.getElem?_drop]) (by simpa using hL.1) (hL.2 w' hw')
  simpa using this) _ t _ _ _ (by have:=V.drew;exact this) H
 rw [htl,show n+(lo.toArray.size - n)=lo.toArray.size by omega] at K;exact K
theorem KJ {F} (hF:Wd F) {nn id lo} {Q:Exit→Act→World→Prop} {l D} (hQ:¬ LetsOut Q) (hd:Ei lo=true) (V:St S M w) (hm:P.follows .mixedOrders=true) (h:let ops:=lo;BC P ops Q ops.length S M (List.replicate ops.length false) l D):
  (Code.region id lo.toArray true).wpIn F nn P Q ⟨l.toArray,D⟩ w:=by
 refine wpIn_mono (dN (Q:=NoPanic Q) hF (fun ⟨a,w,h⟩=>hQ ⟨a,w,h⟩) (by simpa using hd) hm ?_) NoPanic.imp;have:=MJ _ _ _ _ _ _ _ h V.drew
 simpa using this
section
variable {r nn:Nat} {ops:Array Oper} {Q:Exit→Act→World→Prop} {K:Act→World→Prop} {l:List Value} {D:List Deferred} {a:Act} {w:World} {id:Nat}
theorem F0 {lo:List Oper} (h:wpList P lo.toArray Q lo a w) (hQ:¬ LetsOut Q:=by with_unfolding_all (rintro ⟨a,w,h⟩;rcases h with ⟨h,_⟩|⟨h,_⟩<;>cases h)) (hd:Ei lo=true:=by with_unfolding_all rfl):(Code.region id lo.toArray false).wpIn (Fence.wide.inRound r) nn P Q a w:=Fw (.inr ⟨r,rfl⟩) hQ hd h
theorem Ek (h:Q .normal a w):wpList P ops Q [] a w:=h
theorem GL (h:K a w):Exit.then K Q .normal a w:=h
theorem Mj (h:Q .ret a w):Exit.then K Q .ret a w:=h
theorem Xr (h:Q .normal a w):Exit.inBlock id Q .normal a w:=h
theorem KD (h:Q .ret a w):Exit.inBlock id Q .ret a w:=h
theorem Gp {c:Operand} {x y:Code} (hc:Ai l c=.bool true) (h:x.wpIn (Fence.wide.inRound r) nn P Q ⟨l.toArray,D⟩ w):(Code.cond c x y).wpIn (Fence.wide.inRound r) nn P Q ⟨l.toArray,D⟩ w:=wpIn_cond_true (by rw [Di];exact hc) h
theorem MG {c:Operand} {x y:Code} (hc:Ai l c=.bool false) (h:y.wpIn (Fence.wide.inRound r) nn P Q ⟨l.toArray,D⟩ w):(Code.cond c x y).wpIn (Fence.wide.inRound r) nn P Q ⟨l.toArray,D⟩ w:=wpIn_cond_false (by rw [Di];exact hc) h
theorem MF {c:Operand} {x y:Code} {t:Bool} (hc:Ai l c=.bool t) (h1:t=true→x.wpIn (Fence.wide.inRound r) nn P Q ⟨l.toArray,D⟩ w) (h2:t=false→y.wpIn (Fence.wide.inRound r) nn P Q ⟨l.toArray,D⟩ w):(Code.cond c x y).wpIn (Fence.wide.inRound r) nn P Q ⟨l.toArray,D⟩ w :=
 wpIn_cond_split (by rw [Di];exact hc) h1 h2
end
abbrev ah (S:Ad) (A:List J) (go:Prop) (Jqq Xqq:Q9) (C:List J):Exit→Act→World→Prop:=fun e _ W' =>
 (e=.normal∧go∧∃ S'' M',S.Le S''∧Jqq S'' M'∧St S'' (A++(M'++C)) W')∨(e=.ret∧∃ S'' M',S.Le S''∧Xqq S'' M'∧St S'' (A++(M'++C)) W')
theorem Vz {g p d id T z zero bb ty1 ty2 pos1 pos2 af1 af2 body} {Q:Exit→Act→World→Prop} {l D gf lb Nqq} {ok:Nat→List Value→Prop} {go:Nat→Prop} {A} (Jqq:Nat→Q9) (Xqq) {M0} (V:St S (A 0++M0) w) (hJ0:Jqq 0 S M0) (hg:Ai l g=.func (.func gf) #[] lb.toArray) (hb:Body P gf) (hit:Hj P S gf lb Nqq ok go A) (hT:Ty P T true z zero bb) (hps:∀ k vs,ok k vs→∃ cs:List Value,vs=[.agg cs.toArray]∧cs.length=z∧cs.all (·.oneCell')=true) (L:p < l.length) (hd:d < l.length) (hne:p≠d) (hbody:∀ (r k b:Nat) (cs:List Value) (S':Ad) (M C:List J) (W:World),k < Nqq→ok k [.agg cs.toArray]→S.Le S'→Jqq k S' M→St S' (.box b cs T::(A k++(M++C))) W→body.wpIn (Fence.wide.inRound r) 0 P (ah S' (A k) (go k) (Jqq (k+1)) Xqq C) ⟨((l.set p (.agg cs.toArray)).set d (.pointer (some ⟨b,0,none⟩))).toArray,[]⟩ W) (hdone:∀ (d:Nat) (S':Ad) (M:List J) (W:World),S.Le S'→Jqq Nqq S' M→St S' (.obj d (.deferred (some []))::(A Nqq++M)) W→Q .normal ⟨l.toArray,{ target:=.collected d,args:=#[] }::D⟩ W) (hstop:∀ (d k:Nat) (S':Ad) (M:List J) (W:World),k < Nqq→S.Le S'→Xqq S' M→St S' (.obj d (.deferred (some []))::(A k++M)) W→Q .ret ⟨l.toArray,{ target:=.collected d,args:=#[] }::D⟩ W):
  (Code.rangeFunc g #[p] (Code.region id #[⟨some d,.alloc T,ty1,pos1,af1,none⟩,⟨none,.store T (.tmp d) (.tmp p),ty2,pos2,af2,none⟩] false) body).wp P Q ⟨l.toArray,D⟩ w:=by
 refine PM Jqq Xqq V hJ0 hg hb hit (fun k vs h=>by obtain ⟨cs,rfl,_⟩:=hps k vs h;rfl)
  (fun k a' B=>∃ (cs:List Value) (b:Nat),ok k [.agg cs.toArray]∧B=[.box b cs T]∧a'=⟨((l.set p (.agg cs.toArray)).set d (.pointer (some ⟨b,0,none⟩))).toArray,[]⟩) ?_ ?_ hdone hstop
 ·intro r k vs S' M W K hk hok hS' V G;obtain ⟨cs,rfl,hl,h1⟩:=hps k vs hok;have e:((#[p].zip [Value.agg cs.toArray].toArray).foldl (fun t (x:Tmp×Value)=>t.setIfInBounds x.1 x.2) l.toArray)=(l.set p (.agg cs.toArray)).toArray:=by simp
  show Code.wpIn _ _ _ _ _ { tmps:=(#[p].zip [Value.agg cs.toArray].toArray).foldl (fun t (x:Tmp×Value)=>t.setIfInBounds x.1 x.2) l.toArray,defers:=[] } W;rw [e];refine Fw (l:=[⟨some d,.alloc T,ty1,pos1,af1,none⟩,⟨none,.store T (.tmp d) (.tmp p),ty2,pos2,af2,none⟩]) (.inr ⟨r,rfl⟩) ?_ rfl ?_
  ·rintro ⟨a,w,h⟩;exact h
  ·refine BF V hT fun b w' hst'=>?_
   have e1:AV ((l.set p (Value.agg cs.toArray)).set d (.pointer (some ⟨b,0,none⟩))) d=.pointer (some ⟨b,0,none⟩):=by rw [EI];simp [hd]
   have e2:AV ((l.set p (Value.agg cs.toArray)).set d (.pointer (some ⟨b,0,none⟩))) p=.agg cs.toArray:=by
    have hne':=Ne.symm hne;rw [EI];simp [L,hne']
   refine Ax hst' (b:=b) (off:=0) e1 0 rfl hT e2 (cs:=cs) rfl hl h1 (by rw [hT.len_];omega) fun w2 hst2=>?_
   refine G _ [.box b cs T] w2 ⟨cs,b,hok,rfl,rfl⟩ ?_;have hz:zero.length=z:=hT.len_;have e3:List.take 0 zero++cs++List.drop (0+z) zero=cs:=by rw [List.take_zero,List.nil_append,List.drop_of_length_le (by omega),List.append_nil]
   have:St S' (.box b (List.take 0 zero++cs++List.drop (0+z) zero) T::M) w2:=hst2;rw [e3] at this;exact this
 ·rintro r k a' B S' M C W hk ⟨cs,b,hok,rfl,rfl⟩ hS' hJ V;exact hbody r k b cs S' M C W hk hok hS' hJ V
theorem OM {g p p2 d d2 id id2 T z zero bb ty1 ty2 ty3 pos1 pos2 pos3 af1 af2 af3 body} {Q:Exit→Act→World→Prop} {l D gf lb Nqq} {ok:Nat→List Value→Prop} {go:Nat→Prop} {A} (Jqq:Nat→Q9) (Xqq) {M0} (V:St S (A 0++M0) w) (hJ0:Jqq 0 S M0) (hg:Ai l g=.func (.func gf) #[] lb.toArray) (hb:Body P gf) (hit:Hj P S gf lb Nqq ok go A) (hT:Ty P T true z zero bb) (hps:∀ k vs,ok k vs→∃ (cs:List Value) (v:Value),vs=[.agg cs.toArray,v]∧cs.length=z∧cs.all (·.oneCell')=true) (L:p < l.length) (hp2:p2 < l.length) (hd:d < l.length) (hne:p≠d) (hne2:p2≠d) (hnp:p≠p2) (hbody:∀ (r k b:Nat) (cs:List Value) (v:Value) (S':Ad) (M C:List J) (W:World),k < Nqq→ok k [.agg cs.toArray,v]→S.Le S'→Jqq k S' M→St S' (.box b cs T::(A k++(M++C))) W→body.wpIn (Fence.wide.inRound r) 0 P (ah S' (A k) (go k) (Jqq (k+1)) Xqq C) ⟨((((l.set p (.agg cs.toArray)).set p2 v).set d (.pointer (some ⟨b,0,none⟩))).set d2 v).toArray,[]⟩ W) (hdone:∀ (d:Nat) (S':Ad) (M:List J) (W:World),S.Le S'→Jqq Nqq S' M→St S' (.obj d (.deferred (some []))::(A Nqq++M)) W→Q .normal ⟨l.toArray,{ target:=.collected d,args:=#[] }::D⟩ W) (hstop:∀ (d k:Nat) (S':Ad) (M:List J) (W:World),k < Nqq→S.Le S'→Xqq S' M→St S' (.obj d (.deferred (some []))::(A k++M)) W→Q .ret ⟨l.toArray,{ target:=.collected d,args:=#[] }::D⟩ W):
  (Code.rangeFunc g #[p,p2] (Code.seq (Code.region id #[⟨some d,.alloc T,ty1,pos1,af1,none⟩,⟨none,.store T (.tmp d) (.tmp p),ty2,pos2,af2,none⟩] false) (Code.region id2 #[⟨some d2,.assign (.tmp p2),ty3,pos3,af3,none⟩] false)) body).wp P Q ⟨l.toArray,D⟩ w:=by
 refine PM Jqq Xqq V hJ0 hg hb hit (fun k vs h=>by obtain ⟨cs,v,rfl,_⟩:=hps k vs h;rfl)
  (fun k a' B=>∃ (cs:List Value) (v:Value) (b:Nat),ok k [.agg cs.toArray,v]∧B=[.box b cs T]∧a'=⟨((((l.set p (.agg cs.toArray)).set p2 v).set d (.pointer (some ⟨b,0,none⟩))).set d2 v).toArray,[]⟩) ?_ ?_ hdone hstop
 ·intro r k vs S' M W K hk hok hS' V G;obtain ⟨cs,v,rfl,hl,h1⟩:=hps k vs hok;have e:((#[p,p2].zip [Value.agg cs.toArray,v].toArray).foldl (fun t (x:Tmp×Value)=>t.setIfInBounds x.1 x.2) l.toArray)=((l.set p (.agg cs.toArray)).set p2 v).toArray:=by simp
  show Code.wpIn _ _ _ _ _ { tmps:=(#[p,p2].zip [Value.agg cs.toArray,v].toArray).foldl (fun t (x:Tmp×Value)=>t.setIfInBounds x.1 x.2) l.toArray,defers:=[] } W;rw [e];refine wpIn_seq (Fw (l:=[⟨some d,.alloc T,ty1,pos1,af1,none⟩,⟨none,.store T (.tmp d) (.tmp p),ty2,pos2,af2,none⟩]) (.inr ⟨r,rfl⟩) ?_ rfl ?_)
  ·rintro ⟨a,w,h⟩;exact h
  ·refine BF V hT fun b w' hst'=>?_
   have e1:AV (((l.set p (Value.agg cs.toArray)).set p2 v).set d (.pointer (some ⟨b,0,none⟩))) d=.pointer (some ⟨b,0,none⟩):=by rw [EI];simp [hd]
   have e2:AV (((l.set p (Value.agg cs.toArray)).set p2 v).set d (.pointer (some ⟨b,0,none⟩))) p=.agg cs.toArray:=by
    have hne':=Ne.symm hne;have hnp':=Ne.symm hnp;rw [EI];simp [L,hne',hnp']
   have e4:AV (((l.set p (Value.agg cs.toArray)).set p2 v).set d (.pointer (some ⟨b,0,none⟩))) p2=v:=by
    have hne':=Ne.symm hne2;rw [EI];simp [hp2,hne']
   refine Ax hst' (b:=b) (off:=0) e1 0 rfl hT e2 (cs:=cs) rfl hl h1 (by rw [hT.len_];omega) fun w2 hst2=>?_
   refine Fw (l:=[⟨some d2,.assign (.tmp p2),ty3,pos3,af3,none⟩]) (.inr ⟨r,rfl⟩) ?_ rfl ?_
   ·rintro ⟨a,w,h⟩;exact h
   refine BK (v:=v) (w':=w2) ?_ ?_
   ·simp [execOp,Ai,e4]
   refine G _ [.box b cs T] w2 ⟨cs,v,b,hok,rfl,rfl⟩ ?_;have hz:zero.length=z:=hT.len_;have e3:List.take 0 zero++cs++List.drop (0+z) zero=cs:=by rw [List.take_zero,List.nil_append,List.drop_of_length_le (by omega),List.append_nil]
   have:St S' (.box b (List.take 0 zero++cs++List.drop (0+z) zero) T::M) w2:=hst2;rw [e3] at this;exact this
 ·rintro r k a' B S' M C W hk ⟨cs,v,b,hok,rfl,rfl⟩ hS' hJ V;exact hbody r k b cs v S' M C W hk hok hS' hJ V
variable {P:Program}
def BS {α:Type} [Z α] (S:Ad):List MapEntry→List (α×Value)→Prop
 | [],[]=>True
 | e::es,kv::kvs=>(∃ cs,Z.R S cs kv.1∧e.key=.agg cs.toArray∧e.val=kv.2)∧BS S es kvs
 | _,_=>False
theorem BS.mono {α:Type} [Z α] {S S':Ad} (hS:S.Le S'):∀ {es:List MapEntry} {kvs:List (α×Value)},BS S es kvs→BS S' es kvs
 | [],[],_=>trivial
 | _::_,_::_,⟨⟨cs,h1,h2,h3⟩,h⟩=>⟨⟨cs,Z.mono hS h1,h2,h3⟩,BS.mono hS h⟩
 | [],_::_,h=>h.elim
 | _::_,[],h=>h.elim
theorem BS.snoc {α:Type} [Z α] {S:Ad} {e:MapEntry} {k:α} {v:Value} {cs:List Value} (hR:Z.R S cs k) (hk:e.key=.agg cs.toArray) (hv:e.val=v):∀ {es:List MapEntry} {kvs:List (α×Value)},BS S es kvs→BS S (es++[e]) (kvs++[(k,v)])
 | [],[],_=>⟨⟨cs,hR,hk,hv⟩,trivial⟩
 | _::_,_::_,⟨h1,h⟩=>⟨h1,BS.snoc hR hk hv h⟩
 | [],_::_,h=>h.elim
 | _::_,[],h=>h.elim
def BD {α:Type} [DecidableEq α] (kvs:List (α×Value)) (x:α):Option Value:=(kvs.find? fun kv=>decide (x=kv.1)).map (·.2)
section
variable {α:Type} [Z α] [DecidableEq α] {T:TypeId} {d:Nat}
theorem Mo (hE:EqTy P T) (hz:P.cellsOf T=Z.z α) (kk:Key P T α d) {S:Ad} {cs:List Value} {x:α} (hx:Z.R S cs x) (w:World):∀ (es:List MapEntry) (kvs:List (α×Value)) (i:Nat),BS S es kvs →
  ∃ r,(Instr.findAsking T (.agg cs.toArray) es i).run P w=.ok r w∧r.map (·.2)=BD kvs x
 | [],[],i,_=>⟨none,rfl,rfl⟩
 | e::es,kv::kvs,i,⟨⟨cs',h1,h2,h3⟩,h⟩=>by
  have he:=M5 hE hz kk hx h1 w;unfold Instr.findAsking;rw [Sem.run_bind,h2,show Op.equal T (.agg cs.toArray) (.agg cs'.toArray)=Op.equalIn 10000 T (.agg cs.toArray) (.agg cs'.toArray) from rfl,he];simp only [Result.andThen];by_cases hxe:x=kv.1
  ·refine ⟨some (i,e.val),by simp [hxe],?_⟩;simp [BD,hxe,h3]
  ·obtain ⟨r,hr,hm⟩:=Mo hE hz kk hx w es kvs (i+1) h;refine ⟨r,by simpa [hxe] using hr,?_⟩;rw [hm];simp [BD,hxe]
 | [],_::_,_,h=>h.elim
 | _::_,[],_,h=>h.elim
theorem Li (hE:EqTy P T):(match P.underlying T with|some (.array _ _)|some (.struct _)=>true|_=>false)=true:=by
 have:=hE.a
 cases hu:P.underlying T with
 | none=>simp [hu] at this
 | some k=>cases k<;>simp_all
omit [DecidableEq α] in
theorem Kb (hE:EqTy P T) (hz:P.cellsOf T=Z.z α) (kk:Key P T α d) {S cs} {x:α} (hx:Z.R S cs x) (em w):(Instr.checkKey em 10000 T (.agg cs.toArray)).run P w=.ok () w:=by
 have ha:=hE.a;refine run_checkKey_deep (P:=P) em 9980 20 T hE.k w d _ (cs.map FF) ?_ ?_
 ·have hl:=Z.len hx
  cases hu:P.underlying T with
  | none=>simp [hu] at ha
  | some dd=>rw [hu] at ha;cases dd<;>simp_all [Value.formed]
 ·simpa [Value.cells] using kk.key d (Nat.le_refl _) hx
variable {U E:TypeId} {es:Array MapEntry} {kvs:List (α×Value)} {b clock:Nat}
theorem Tw (hU:P.underlying U=some (.map T E)) (hE:EqTy P T) (hz:P.cellsOf T=Z.z α) (kk:Key P T α d) {aggE:Bool} {zE:Nat} {zero:List Value} {bb:Nat} (hT:Ty P E aggE zE zero bb) {S:Ad} {cs:List Value} {x:α} (hx:Z.R S cs x) (hm:BS S es.toList kvs) (w:World) (hb:w.heap[b]? = some (.map es clock)) (ok:Bool) :
  (Instr.lookup U (.map (some b)) (.agg cs.toArray) ok).run P w=.ok (if ok then .tuple #[(BD kvs x).getD (DU aggE zero),.bool (BD kvs x).isSome] else (BD kvs x).getD (DU aggE zero)) w:=by
 obtain ⟨r,hr,hrm⟩:=Mo hE hz kk hx w es.toList kvs 0 hm;have hc:=Kb hE hz kk hx es.isEmpty w;have hget:(getObj b).run P w=.ok (.map es clock) w:=by simp [getObj,Sem.run,hb]
 unfold Instr.lookup;simp only [Sem.run_bind,run_underlying hU,Result.andThen_ok,hget,hc,Sem.run_pure,run_findKey_eq w (Li hE),hr];rw [← hrm]
 cases r with
 | none=>cases ok<;>simp [Sem.run_bind,hT.run_zero]
 | some p=>cases ok<;>simp
theorem Tv (hU:P.underlying U=some (.map T E)) (hE:EqTy P T) (hz:P.cellsOf T=Z.z α) (kk:Key P T α d) {S:Ad} {cs:List Value} {x:α} (hx:Z.R S cs x) (hm:BS S es.toList kvs) (w:World) (hb:w.heap[b]? = some (.map es clock)) (v:Value) (hn:BD kvs x=none) :
  (Instr.mapUpdate U (.map (some b)) (.agg cs.toArray) v).run P w=.ok () (w.putObj b (.map (es.push { key:=.agg cs.toArray,val:=v,born:=clock }) (clock+1))):=by
 obtain ⟨r,hr,hrm⟩:=Mo hE hz kk hx w es.toList kvs 0 hm;have hc:=Kb hE hz kk hx false w;have hget:(getObj b).run P w=.ok (.map es clock) w:=by simp [getObj,Sem.run,hb]
 have hset:∀ o,(setObj b o).run P w=.ok () (w.putObj b o):=fun o=>by simp [setObj,Sem.run,hb,World.putObj]
 rw [hn] at hrm;have hr0:r=none:=by cases r<;>simp_all
 subst hr0;unfold Instr.mapUpdate;simp only [Sem.run_bind,run_underlying hU,Result.andThen_ok,hget,hc,Sem.run_pure,run_findKey_eq w (Li hE),hr,hset]
end
class ObjIn (M:List J) (b:Nat) (k:outParam Nat) (o:outParam Obj):Prop where
 h:M[k]? = some (.obj b o)
instance iM {M:List J} {b:Nat} {o:Obj}:ObjIn (.obj b o::M) b 0 o:=⟨rfl⟩
instance ib {M:List J} {c:J} {b k:Nat} {o:Obj} [i:ObjIn M b k o]:ObjIn (c::M) b (k+1) o:=⟨by simpa using i.h⟩
class MapT (P:Program) (U:TypeId) (T E:outParam TypeId):Prop where
 u:P.underlying U=some (.map T E)
section
variable {ops:Array Oper} {rest:List Oper} {Q:Exit→Act→World→Prop} {l:List Value} {D:List Deferred} {w:World} {dd:Tmp} {ty:TypeId} {pos:String} {af:Array Edge} {S:Ad} {M:List J} {α:Type} [Z α] [DecidableEq α]
theorem KQ {U:TypeId} (V:St S M w) (h:∀ b w',St S (.obj b (.map #[] 0)::M) w'→wpList P ops Q rest ⟨(l.set dd (.map (some b))).toArray,D⟩ w') :
  wpList P ops Q (⟨some dd,.makeMap U none,ty,pos,af,none⟩::rest) ⟨l.toArray,D⟩ w:=by
 refine BK (v:=.map (some w.heap.size)) (w':=w.alloc (.map #[] 0)) ?_ (h _ _ (V.allocObj _));simp only [execOp,Instr.makeMap];rfl
theorem CB {U T E:TypeId} {d:Nat} {a i:Operand} {aggE:Bool} {zE:Nat} {zero:List Value} {bb b k clock:Nat} {es:Array MapEntry} {kvs:List (α×Value)} {cs:List Value} {x:α} (ha:Ai l a=.map (some b)) (hi:Ai l i=.agg cs.toArray) (hU:MapT P U T E) (hE:EqTy P T) (hz:P.cellsOf T=Z.z α) (kk:Key P T α d) (hT:Ty P E aggE zE zero bb)
  (hM:ObjIn M b k (.map es clock)) (hm:BS S es.toList kvs) (hx:Z.R S cs x) (ok:Bool) :
  Qt P l (.lookup U a i ok) S M (if ok then .tuple #[(BD kvs x).getD (DU aggE zero),.bool (BD kvs x).isSome] else (BD kvs x).getD (DU aggE zero)):=fun dst ty pos af w V=>by
 have hb:w.heap[b]? = some (.map es clock):=V.get hM.h;simp only [execOp,ha,hi];have:=Tw hU.u hE hz kk hT hx hm w hb ok;simp [this]
theorem GM {U T E:TypeId} {d:Nat} {a i v:Operand} {u:Value} {b k clock:Nat} {es:Array MapEntry} {kvs:List (α×Value)} {cs:List Value} {x:α} (V:St S M w) (ha:Ai l a=.map (some b)) (hi:Ai l i=.agg cs.toArray) (hv:Ai l v=u) (hU:MapT P U T E) (hE:EqTy P T) (hz:P.cellsOf T=Z.z α) (kk:Key P T α d)
  (hM:ObjIn M b k (.map es clock)) (hm:BS S es.toList kvs) (hx:Z.R S cs x) (hn:BD kvs x=none)
  (h:∀ es' w',BS S es'.toList (kvs++[(x,u)])→St S (M.set k (.obj b (.map es' (clock+1)))) w'→wpList P ops Q rest ⟨l.toArray,D⟩ w') :
  wpList P ops Q (⟨none,.mapUpdate U a i v,ty,pos,af,none⟩::rest) ⟨l.toArray,D⟩ w:=by
 have hb:w.heap[b]? = some (.map es clock):=V.get hM.h;have hr:=Tv hU.u hE hz kk hx hm w hb u hn;refine I1 (w':=w.putObj b (.map (es.push { key:=.agg cs.toArray,val:=u,born:=clock }) (clock+1))) ?_ (h _ _ ?_ (St.back hM.h ((V.move hM.h).putObj)))
 ·simp only [execOp,ha,hi,hv];simp [hr]
 ·rw [Array.toList_push];exact BS.snoc hx rfl rfl hm
end
variable {P:Program} {S:Ad} {M:List J} {l:List Value} {ops:Array Oper} {rest:List Oper} {Q:Exit→Act→World→Prop} {D:List Deferred} {w:World} {ty:TypeId} {pos:String} {af:Array Edge} {d:Tmp}
theorem sl_formk {v T} {z n k:Nat} {c} (h:St S M w) (hk:M[k]? = some (.sl v T z n c)):∃ ad cap,v=.slice ad n cap:=by
 rcases (h.get hk).2 with ⟨rfl,rfl⟩|⟨g,cap,cur,fz,rfl,_⟩
 ·exact ⟨_,_,rfl⟩
 ·exact ⟨_,_,rfl⟩
section
variable {P:Program} {S:Ad} {M:List J} {l:List Value} {α:Type} [Z α]
theorem RL.at_len {c} {xs:List α} (h:RL S c xs) {j} (hl:j < xs.length):j * Z.z α+Z.z α≤c.length:=by
 rw [h.1];have:=Nat.mul_le_mul_right (Z.z α) (show j+1≤xs.length by omega);rw [Nat.succ_mul] at this;exact this
theorem RL.at_some {c} {xs:List α} (h:RL S c xs) {j y} (hy:xs[j]? = some y):j * Z.z α+Z.z α≤c.length:=h.at_len (List.getElem?_eq_some_iff.1 hy).1
theorem BZ {T F x agg zero bb v p} {j k n:Nat} {c} {xs:List α} {y} (hx:Ai l x=p) (L:JY v p (j * Z.z α)) (hk:M[k]? = some (.sl v F (Z.z α) n c)) (hR:RL S c xs) (hT:Ty P T agg (Z.z α) zero bb) (hy:xs[j]? = some y):∃ u,(∃ cs,u=DU agg cs∧Z.R S cs y)∧Qt P l (.load T x) S M u :=
 ⟨_,⟨_,rfl,hR.2 j _ hy⟩,G4 hx L hk hT rfl (hR.at_some hy)⟩
theorem BE {w v T} {k z n:Nat} {c} (h:St S M w) (hk:M[k]? = some (.sl v T z n c)):v.oneCell'=true:=by
 rcases (h.get hk).2 with ⟨rfl,_⟩|⟨g,cap,cur,fz,rfl,_⟩<;>rfl
end
section
variable {P:Program} {S:Ad} {M:List J} {l:List Value}
theorem aP (a b:List UInt8):((⟨a.toArray⟩:ByteArray).toList == (⟨b.toArray⟩:ByteArray).toList)=decide (a=b):=by
 rw [ByteArray.toList_eq,ByteArray.toList_eq];by_cases h:a=b
 ·rw [decide_eq_true h,h];exact beq_self_eq_true _
 ·rw [decide_eq_false h];exact beq_eq_false_iff_ne.2 h
theorem AA {T U x y} {a b:List UInt8} {c} (hx:Ai l x=.string ⟨a.toArray⟩) (hy:Ai l y=.string ⟨b.toArray⟩) (hT:StrT P T) (e:decide (a=b)=c):Qt P l (.binOp .eql T x y U) S M (.bool c):=fun dst ty pos af w _=>by
 simp only [execOp,hx,hy,eqGuard_at_string,binOp_string_eql,aP,e];rfl
end
variable {P:Program}
def ZW (P:Program) (f:FuncId) (args:List Value) (w:World) (ch:List PanicEntry) (post:World→Prop):Prop :=
 Calls P f args.toArray w fun e w'=>e=.panicked ch∧post w'
section
variable {ops:Array Oper} {rest:List Oper} {Q:Exit→Act→World→Prop} {l:List Value} {D:List Deferred} {w:World} {ty:TypeId} {pos:String} {af:Array Edge}
theorem ZW.mono {f args ch} {post post':World→Prop} (h:ZW P f args w ch post) (L:∀ w',post w'→post' w'):ZW P f args w ch post' :=
 Calls.mono h fun _ w' ⟨e,p⟩=>⟨e,L w' p⟩
end
section
variable {P:Program} {lo:List Oper} {Q:Exit→Act→World→Prop} {K:Act→World→Prop} {S:Ad} {M:List J} {l:List Value} {D:List Deferred} {w:World} {bs:List Bool} {f:Nat} {o:Oper} {v:Value}
def FZ (Q:Exit→Act→World→Prop):Prop:=∀ c (a:Act) d v w,Q (.panic c) (a.put d v) w→Q (.panic c) a w
theorem put_defers (a:Act) (d v):(a.put d v).defers=a.defers:=by cases d<;>rfl
theorem Jx {fn} {R:Ending→World→Prop}:FZ (bodyPost P fn R):=fun c a d v w h=>⟨by rw [← put_defers a d v];exact h.1,h.2⟩
theorem Jw {K:Act→World→Prop} (h:FZ Q):FZ (Exit.then K Q):=fun c a d v w k=>h c a d v w k
theorem II {id} (h:FZ Q):FZ (Exit.inBlock id Q):=fun c a d v w k=>h c a d v w k
end
section
variable {P:Program} {lo:List Oper} {Q:Exit→Act→World→Prop} {K:Act→World→Prop} {S S0:Ad} {M:List J} {l:List Value} {D:List Deferred} {w:World} {bs:List Bool} {f:Nat} {o:Oper} {v:Value}
theorem St.nilM:∀ {M:List J},St S M w→St S [] w
 | [],h=>h
 | _::_,h=>St.nilM h.drop
theorem St.cls (hS:S0.Le S) (h:St S M w):St S0 [] w:=St.weaken hS h.nilM
theorem RL.set {α:Type} [Z α] {c cs} {xs:List α} {y k} (h:RL S c xs) (hy:Z.R S cs y) (hk:k < xs.length):RL S (c.take (k * Z.z α)++cs++c.drop (k * Z.z α+Z.z α)) (xs.set k y):=by
 have e:xs.set k y=(xs.take k++[y])++xs.drop (k+1):=by
  rw [List.set_eq_take_append_cons_drop,if_pos hk];simp
 rw [e];have h1:=h.sub 0 k (by omega);rw [Nat.zero_mul,List.drop_zero,List.drop_zero] at h1;have h2:=h.sub (k+1) (xs.length - (k+1)) (by omega);have hl:=h.1;rw [List.take_of_length_le (l:=xs.drop (k+1)) (by rw [List.length_drop];exact Nat.le_refl _),List.take_of_length_le (l:=c.drop ((k+1) * Z.z α)) (by rw [List.length_drop,hl,← Nat.sub_mul];exact Nat.le_refl _),Nat.succ_mul] at h2;exact (h1.append (RL.one_mk hy)).append h2
theorem Cn (_:St S M w):S.Le S:=Ad.Le.refl S
abbrev ER (P:Program) (lo:List Oper) (Q:Exit→Act→World→Prop) (S0:Ad) (f:Nat) (bs:List Bool) (l:List Value) (D:List Deferred) (w:World):Prop :=
 wpAnyH P .any lo.toArray Q (fun w=>St S0 [] w) f bs.toArray ⟨l.toArray,D⟩ w
theorem Bm {id:Nat} (V:St S M w) (hm:P.follows .mixedOrders=true) (h:∀ w',St S M w'→ER P lo Q S lo.length (List.replicate lo.length false) l D w'):(Code.region id lo.toArray true).wp P Q ⟨l.toArray,D⟩ w:=by
 refine wp_region_held (S:=fun w=>St S [] w) hm ?_;have:=h _ V.drew
 simpa [ER] using this
theorem N8 (k:Nat) (hQ:FZ Q) (ho:lo[k]? = some o) (hs:Region.noSelect lo.toArray=true) (hf:Region.free .any lo.toArray bs.toArray k=true) (hr:(Region.ready .any lo.toArray bs.toArray).contains k=true)
  (hw:Region.wanted o (yielded lo.toArray l.toArray)=true) (hc:St S0 [] w) (hq:Qt P l o.op S0 [] v) (h:ER P lo Q S0 f (bs.set k true) (Bq l o.dst v) D w):ER P lo Q S0 (f+1) bs l D w:=by
 refine wpAnyH_take (i:=k) (by simpa using ho) hs hf hr (fun c a w h=>hQ c a _ _ w h) (.inl ⟨hw,fun w' hw'=>by rw [Di];exact hq o.dst o.type o.pos o.after w' hw'⟩) hc ?_;have e1:bs.toArray.setIfInBounds k true=(bs.set k true).toArray:=by simp
 have e2:(⟨l.toArray,D⟩:Act).put o.dst v=⟨(Bq l o.dst v).toArray,D⟩:=by cases o.dst<;>simp [Act.put,Bq]
 rw [e1,e2];exact h
theorem YF (k:Nat) {F:Value→Prop} (hQ:FZ Q) (ho:lo[k]? = some o) (hs:Region.noSelect lo.toArray=true) (hf:Region.free .any lo.toArray bs.toArray k=true) (hr:(Region.ready .any lo.toArray bs.toArray).contains k=true)
  (hw:Region.wanted o (yielded lo.toArray l.toArray)=true) (hc:St S0 [] w) (hq:∃ v,F v∧Qt P l o.op S0 [] v) (h:∀ v,F v→ER P lo Q S0 f (bs.set k true) (Bq l o.dst v) D w):ER P lo Q S0 (f+1) bs l D w :=
 let ⟨v,hv,q⟩:=hq;N8 k hQ ho hs hf hr hw hc q (h v hv)
def Hi (P:Program) (lo:List Oper) (Q:Exit→Act→World→Prop) (S0:Ad) (f:Nat) (bs:List Bool) (K:Act→World→Prop):Prop :=
 ∀ l D w,St S0 [] w→ER P lo Q S0 f bs l D w→K ⟨l.toArray,D⟩ w
theorem Is {k:Nat} (ho:lo[k]? = some o) (h:∀ K,Hi P lo Q S0 f (bs.set k true) K→wpList P lo.toArray (Exit.then K Q) [o] ⟨l.toArray,D⟩ w) :
  wpOp P lo.toArray Q k (fun a' w'=>St S0 [] w'∧wpAnyH P .any lo.toArray Q (fun w=>St S0 [] w) f (bs.toArray.setIfInBounds k true) a' w') ⟨l.toArray,D⟩ w:=by
 refine KF (by simpa using ho) (h _ fun l D w hc hA=>⟨hc,?_⟩);have e1:bs.toArray.setIfInBounds k true=(bs.set k true).toArray:=by simp
 rw [e1];exact hA
theorem fC (k:Nat) (ho:lo[k]? = some o) (hr:Region.ready .any lo.toArray bs.toArray=[k])
  (h:∀ K,Hi P lo Q S0 f (bs.set k true) K→wpList P lo.toArray (Exit.then K Q) [o] ⟨l.toArray,D⟩ w):ER P lo Q S0 (f+1) bs l D w:=by
 refine wpAnyH_all hr (by simp) fun i hi=>?_
 obtain rfl:=List.mem_singleton.1 hi;exact Is ho h
theorem Cp (j k:Nat) {o':Oper} (ho:lo[j]? = some o) (ho':lo[k]? = some o') (hr:Region.ready .any lo.toArray bs.toArray=[j,k])
  (h:∀ K,Hi P lo Q S0 f (bs.set j true) K→wpList P lo.toArray (Exit.then K Q) [o] ⟨l.toArray,D⟩ w)
  (h':∀ K,Hi P lo Q S0 f (bs.set k true) K→wpList P lo.toArray (Exit.then K Q) [o'] ⟨l.toArray,D⟩ w):ER P lo Q S0 (f+1) bs l D w:=by
 refine wpAnyH_all hr (by simp) fun i hi=>?_
 rcases List.mem_cons.1 hi with rfl|hi
 ·exact Is ho h
 ·obtain rfl:=List.mem_singleton.1 hi;exact Is ho' h'
theorem P3 (i j k:Nat) {o' o'':Oper} (ho:lo[i]? = some o) (ho':lo[j]? = some o') (ho'':lo[k]? = some o'') (hr:Region.ready .any lo.toArray bs.toArray=[i,j,k])
  (h:∀ K,Hi P lo Q S0 f (bs.set i true) K→wpList P lo.toArray (Exit.then K Q) [o] ⟨l.toArray,D⟩ w)
  (h':∀ K,Hi P lo Q S0 f (bs.set j true) K→wpList P lo.toArray (Exit.then K Q) [o'] ⟨l.toArray,D⟩ w)
  (h'':∀ K,Hi P lo Q S0 f (bs.set k true) K→wpList P lo.toArray (Exit.then K Q) [o''] ⟨l.toArray,D⟩ w):ER P lo Q S0 (f+1) bs l D w:=by
 refine wpAnyH_all hr (by simp) fun q hi=>?_
 rcases List.mem_cons.1 hi with rfl|hi
 ·exact Is ho h
 ·rcases List.mem_cons.1 hi with rfl|hi
  ·exact Is ho' h'
  ·obtain rfl:=List.mem_singleton.1 hi;exact Is ho'' h''
theorem bP {ops:Array Oper} {Q':Exit→Act→World→Prop} (G:Hi P lo Q S0 f bs K) (hc:St S0 [] w) (h:ER P lo Q S0 f bs l D w):wpList P ops (Exit.then K Q') [] ⟨l.toArray,D⟩ w:=G l D w hc h
theorem AK (hr:Region.ready .any lo.toArray bs.toArray=[]) (h:Q .normal ⟨l.toArray,D⟩ w):ER P lo Q S0 f bs l D w:=wpAnyH_done hr h f
end
variable {P:Program}
def Ez {α:Type} [DecidableEq α]:List (α×Value)→α→Value→List (α×Value)
 | [],_,_=>[]
 | kv::r,x,v=>if x=kv.1 then (kv.1,v)::r else kv::Ez r x v
section
variable {α:Type} [DecidableEq α]
theorem Jc (x:α):BD [] x=none:=rfl
theorem C7 (kv:α×Value) (r x):BD (kv::r) x=if x=kv.1 then some kv.2 else BD r x:=by
 unfold BD;rw [List.find?_cons];by_cases h:x=kv.1
 ·rw [if_pos h,decide_eq_true h];rfl
 ·rw [if_neg h,decide_eq_false h]
theorem Mb (x y:α) (v:Value):∀ kvs:List (α×Value),BD (Ez kvs x v) y=if y=x∧(BD kvs x).isSome then some v else BD kvs y
 | []=>by simp [Ez,Jc]
 | kv::r=>by
  rw [Ez,C7 kv r x,C7 kv r y];by_cases h:x=kv.1
  ·obtain ⟨k,v'⟩:=kv;simp only at h;subst h;rw [if_pos rfl,if_pos rfl,C7];by_cases hy:y=x
   ·simp [hy]
   ·simp [hy]
  ·rw [if_neg h,if_neg h,C7,Mb x y v r];by_cases hy:y=kv.1
   ·rw [if_pos hy,if_pos hy,if_neg];rintro ⟨e,_⟩;exact h (e.symm.trans hy)
   ·rw [if_neg hy,if_neg hy]
theorem Nr (x y:α) (v:Value):∀ kvs:List (α×Value),BD (kvs++[(x,v)]) y=match BD kvs y with|some u=>some u|none=>if y=x then some v else none
 | []=>by rw [List.nil_append,C7,Jc]
 | kv::r=>by
  rw [List.cons_append,C7,C7];by_cases h:y=kv.1
  ·rw [if_pos h,if_pos h]
  ·rw [if_neg h,if_neg h,Nr x y v r]
end
section
variable {α:Type} [Z α] [DecidableEq α] {T:TypeId} {d:Nat}
omit [DecidableEq α] in
theorem BS.at_ {S:Ad}:∀ {es:List MapEntry} {kvs:List (α×Value)} {j:Nat} {kv:α×Value},BS S es kvs→kvs[j]? = some kv→∃ e cs,es[j]? = some e∧Z.R S cs kv.1∧e.key=.agg cs.toArray∧e.val=kv.2
 | [],[],j,kv,_,h=>by simp at h
 | e::es,kv'::kvs,0,kv,⟨⟨cs,h1,h2,h3⟩,_⟩,h=>by
  simp only [List.getElem?_cons_zero,Option.some.injEq] at h;subst h;exact ⟨e,cs,rfl,h1,h2,h3⟩
 | e::es,kv'::kvs,j+1,kv,⟨_,hm⟩,h=>by
  simp only [List.getElem?_cons_succ] at h ⊢;exact hm.at_ h
 | [],_::_,_,_,h,_=>h.elim
 | _::_,[],_,_,h,_=>h.elim
omit [DecidableEq α] in
theorem BS.set {S:Ad} {e':MapEntry} {x:α} {v:Value} {cs:List Value} (hR:Z.R S cs x) (hk:e'.key=.agg cs.toArray) (hv:e'.val=v):∀ {es:List MapEntry} {kvs:List (α×Value)} (j:Nat),BS S es kvs→BS S (es.set j e') (kvs.set j (x,v))
 | [],[],_,_=>trivial
 | _::_,_::_,0,⟨_,h⟩=>⟨⟨cs,hR,hk,hv⟩,h⟩
 | _::_,_::_,j+1,⟨h1,h⟩=>⟨h1,BS.set hR hk hv j h⟩
 | [],_::_,_,h=>h.elim
 | _::_,[],_,h=>h.elim
theorem OO (hE:EqTy P T) (hz:P.cellsOf T=Z.z α) (kk:Key P T α d) {S:Ad} {cs:List Value} {x:α} {v0:Value} (hx:Z.R S cs x) (w:World):∀ (es:List MapEntry) (kvs:List (α×Value)) (i:Nat),BS S es kvs→BD kvs x=some v0 →
  ∃ j,(Instr.findAsking T (.agg cs.toArray) es i).run P w=.ok (some (i+j,v0)) w∧kvs[j]? = some (x,v0)∧∀ u,Ez kvs x u=kvs.set j (x,u)
 | [],[],i,_,h=>by simp [Jc] at h
 | e::es,kv::kvs,i,⟨⟨cs',h1,h2,h3⟩,hm⟩,h=>by
  have he:=M5 hE hz kk hx h1 w;unfold Instr.findAsking;rw [Sem.run_bind,h2,show Op.equal T (.agg cs.toArray) (.agg cs'.toArray)=Op.equalIn 10000 T (.agg cs.toArray) (.agg cs'.toArray) from rfl,he];simp only [Result.andThen];rw [C7] at h;by_cases hxe:x=kv.1
  ·rw [if_pos hxe] at h;obtain rfl:=Option.some.inj h;refine ⟨0,by simp [hxe,h3],by rw [hxe];rfl,fun u=>by rw [Ez,if_pos hxe,hxe];rfl⟩
  ·rw [if_neg hxe] at h;obtain ⟨j,hr,hj,hs⟩:=OO hE hz kk hx w es kvs (i+1) hm h;refine ⟨j+1,by simpa [hxe,Nat.add_assoc,Nat.add_comm 1 j] using hr,hj,fun u=>by rw [Ez,if_neg hxe,hs u];rfl⟩
 | [],_::_,_,h,_=>h.elim
 | _::_,[],_,h,_=>h.elim
variable {U E:TypeId} {es:Array MapEntry} {kvs:List (α×Value)} {b clock:Nat}
theorem Rl {cells:α→List Value} (hF:FlatC α cells) (hU:P.underlying U=some (.map T E)) (hE:EqTy P T) (hz:P.cellsOf T=Z.z α) (kk:Key P T α d) {S:Ad} {x:α} (hx:Z.R S (cells x) x) (hm:BS S es.toList kvs) (w:World) (hb:w.heap[b]? = some (.map es clock)) (v:Value) {v0:Value} (hn:BD kvs x=some v0)
  (hsb:Instr.sameBits 10000 (.agg (cells x).toArray) (.agg (cells x).toArray)=true) :
  ∃ es',(Instr.mapUpdate U (.map (some b)) (.agg (cells x).toArray) v).run P w=.ok () (w.putObj b (.map es' clock))∧BS S es'.toList (Ez kvs x v):=by
 obtain ⟨j,hr,hj,hs⟩:=OO hE hz kk hx w es.toList kvs 0 hm hn;rw [Nat.zero_add] at hr;have hc:=Kb hE hz kk hx false w;have hget:(getObj b).run P w=.ok (.map es clock) w:=by simp [getObj,Sem.run,hb]
 have hset:∀ o,(setObj b o).run P w=.ok () (w.putObj b o):=fun o=>by simp [setObj,Sem.run,hb,World.putObj]
 obtain ⟨e,cs',he,hR',hk',hv'⟩:=hm.at_ hj;have hcs:cs'=cells x:=hF.flat hR';subst hcs;have hea:es[j]? = some e:=by simpa using he
 refine ⟨es.modify j fun e=>{ e with key:=.agg (cells x).toArray,val:=v },?_,?_⟩
 ·unfold Instr.mapUpdate;simp only [Sem.run_bind,run_underlying hU,Result.andThen_ok,hget,hc,Sem.run_pure,run_findKey_eq w (Li hE),hr,hset];rw [hea];simp only [Option.map_some,Option.getD_some,hk',Instr.keyThatStays,hsb,if_true,Sem.run_pure,Result.andThen_ok];exact hset _
 ·rw [hs v]
  have h1:(es.modify j fun e=>{ e with key:=.agg (cells x).toArray,val:=v }).toList=es.toList.set j { e with key:=.agg (cells x).toArray,val:=v }:=by
   rw [Array.toList_modify];apply List.ext_getElem?;intro i;rw [List.getElem?_modify,List.getElem?_set];by_cases hij:j=i
   ·subst hij;have hlt:j < es.toList.length:=(List.getElem?_eq_some_iff.1 he).1;rw [if_pos rfl,if_pos hlt,he];simp
   ·rw [if_neg hij]
    cases es.toList[i]?<;>simp [hij]
  rw [h1];exact BS.set hx rfl rfl j hm
end
section
variable {ops:Array Oper} {rest:List Oper} {Q:Exit→Act→World→Prop} {l:List Value} {D:List Deferred} {w:World} {dd:Tmp} {ty:TypeId} {pos:String} {af:Array Edge} {S:Ad} {M:List J} {α:Type} [Z α] [DecidableEq α]
theorem IC {U T E:TypeId} {d:Nat} {a i v:Operand} {u v0:Value} {b k clock:Nat} {es:Array MapEntry} {kvs:List (α×Value)} {cells:α→List Value} {x:α} (V:St S M w) (ha:Ai l a=.map (some b)) (hi:Ai l i=.agg (cells x).toArray) (hv:Ai l v=u) (hF:FlatC α cells) (hU:MapT P U T E) (hE:EqTy P T) (hz:P.cellsOf T=Z.z α) (kk:Key P T α d)
  (hM:ObjIn M b k (.map es clock)) (hm:BS S es.toList kvs) (hx:Z.R S (cells x) x) (hn:BD kvs x=some v0) (hsb:Instr.sameBits 10000 (.agg (cells x).toArray) (.agg (cells x).toArray)=true)
  (h:∀ es' w',BS S es'.toList (Ez kvs x u)→St S (M.set k (.obj b (.map es' clock))) w'→wpList P ops Q rest ⟨l.toArray,D⟩ w') :
  wpList P ops Q (⟨none,.mapUpdate U a i v,ty,pos,af,none⟩::rest) ⟨l.toArray,D⟩ w:=by
 have hb:w.heap[b]? = some (.map es clock):=V.get hM.h;obtain ⟨es',hr,hm'⟩:=Rl hF hU.u hE hz kk hx hm w hb u hn hsb;refine I1 (w':=w.putObj b (.map es' clock)) ?_ (h _ _ hm' (St.back hM.h ((V.move hM.h).putObj)));simp only [execOp,ha,hi,hv];simp [hr]
end
variable {P:Program} {S:Ad} {M:List J} {l:List Value}
section
variable {P:Program} {ops:Array Oper} {rest:List Oper} {Q:Exit→Act→World→Prop} {l:List Value} {D:List Deferred} {w:World} {ty:TypeId} {pos:String} {af:Array Edge} {S:Ad} {M:List J}
def kH (v t:Value) (o m:Nat):Prop:=∃ g n cap cp,v=.slice (some ⟨g,0,none⟩) n cap∧t=.slice (some ⟨g,o,none⟩) m cp
theorem R5 {T E F x lo agg z zero bb v} {k n a:Nat} {c kk} (V:St S M w) (hx:Ai l x=v) (hk:M[k]? = some (.sl v F z n c)) (hi:Ai l lo=.int kk (a:Int)) (hT:SlT P T E) (hE:Ty P E agg z zero bb) (hn:a < n):∃ t,kH v t (a * z) (n - a)∧Qt P l (.slice T x (some lo) none none) S M t:=by
 rcases (V.get hk).2 with ⟨rfl,rfl⟩|⟨g,cap,cur,fz,rfl,hg,hfz,hnc,_⟩
 ·omega
 ·refine ⟨.slice (some ⟨g,a * z,none⟩) (n - a) (cap - a),⟨g,n,cap,_,rfl,rfl⟩,fun dst ty pos af w _=>?_⟩;simp only [execOp,hx,Sem.run_bind];rw [Fi hT hE (lo:=(some lo).map (Ai l)) (hi:=(none:Option Operand).map (Ai l)) (mx:=(none:Option Operand).map (Ai l)) (a:=a) (b:=n) (m:=cap) (.inr ⟨kk,by simp [hi]⟩) (.inl ⟨rfl,rfl⟩) (.inl ⟨rfl,rfl⟩) (by omega) hnc (Nat.le_refl _) (by simp),if_neg (by omega)];simp [Addr.add_mid]
theorem ct {F v g o k zz n n' cap' c cs} (V:St S M w) (hv:v=.slice (some ⟨g,0,none⟩) n' cap') (hk:M[k]? = some (.sl v F zz n c)) (hf:o+cs.length≤c.length):
  St S (M.set k (.sl v F zz n (c.take o++cs++c.drop (o+cs.length)))) (w.setCells g o cs)∧(∀ j,j < cs.length→(w.cell? ⟨g,o+0+j,none⟩).isSome=true)∧(∀ j,j < cs.length→w.frozen? ⟨g,o+0+j,none⟩=false):=by
 subst hv;have hmv:=V.move hk;have h0:=V.get hk;rcases h0.2 with ⟨e,_⟩|⟨g',cap,cur,fz,e,hg,hfz,hnc,hcm,hcs,htk⟩
 ·cases e
 ·obtain ⟨hgg,hnn,hcc⟩:g=g'∧n'=n∧cap'=cap:=by simpa using e
  subst hgg;subst hcc;have hcl:=h0.1;have hcur:n * zz≤cur.size:=Nat.le_trans (Nat.mul_le_mul_right _ hnc) hcs;have hfit:o+cs.length≤cur.toList.length:=by simp;omega
  have hat:=FR g F fz cs o w cur.toList (by simpa using hg) hfit;obtain ⟨e1,e2,e3⟩:=EF g cs o w
  have hcell:∀ j,j < cs.length→(w.cell? ⟨g,o+0+j,none⟩).isSome=true:=fun j hj=>by
   have hlt:o+j < cur.size:=by simp at hfit;omega
   simp only [World.cell?,hg];simp [hlt]
  have hfro:∀ j,j < cs.length→w.frozen? ⟨g,o+0+j,none⟩=false:=fun j hj=>by
   have:=hfz (o+j) (by simp at hfit;omega);simp only [World.frozen?,hg]
   simpa using this
  refine ⟨St.back hk (hmv.set e1 e2 e3 ⟨?_,.inr ⟨g,cap',_,fz,by rw [hnn],hat,?_,hnc,hcm,?_,?_⟩⟩ (fun b hb=>.inl hb) (fun b _ hne=>EG g cs _ w b (fun e=>hne (by simp [J.own,Value.ownBlock,e])))),hcell,hfro⟩
  ·simp only [List.length_append,List.length_take,List.length_drop];omega
  ·intro j hj;refine hfz j ?_;simp only [List.size_toArray,List.length_append,List.length_take,List.length_drop,Array.length_toList] at hj hfit;omega
  ·simp only [List.size_toArray,List.length_append,List.length_take,List.length_drop,Array.length_toList] at hfit ⊢;omega
  ·rw [List.toList_toArray,← htk];have hlc:(cur.toList.take (n * zz)).length=n * zz:=by simp;omega
   rw [List.take_append,List.take_append];simp only [List.length_append,List.length_take,Array.length_toList] at hfit ⊢;have hmin:min o cur.size=o:=by omega
   rw [hmin,List.take_take,List.take_take,List.drop_take];have ho:o≤n * zz:=by omega
   rw [Nat.min_eq_left ho,Nat.min_eq_right ho];rw [List.take_of_length_le (show cs.length≤n * zz - o by omega)]
end
variable {P:Program} {S:Ad} {M:List J} {l:List Value} {ops:Array Oper} {rest:List Oper} {Q:Exit→Act→World→Prop} {D:List Deferred} {w:World} {ty:TypeId} {pos:String} {af:Array Edge} {d:Tmp}
theorem Yj {k v x t tx ty E agg z n m zero c news bb} (V:St S M w) (hk:M[k]? = some (.sl v E z n c)) (hT:SlT P t E) (hE:Ty P E agg z zero bb) (hs:Src P z tx x m news w) (h1:∀ u∈news,u.oneCell'=true) (hm:m≤n):
  ∃ w',(Builtin.copy_ #[t,tx] ty #[v,x]).run P w=.ok (goInt m) w'∧St S (M.set k (.sl v E z n (news++c.drop (m * z)))) w':=by
 obtain ⟨i,hi,hiz,his,hib⟩:=hE.run_bytes;have hmv:=V.move hk;have h0:=hmv.at_ _ (.head _);have hlen:=hs.len;have hcells:=hs.cells;have hnl:=hs.newsLen;have hmin:∀ q,m≤q→Nat.min m q=m:=fun q hq=>Nat.min_eq_left hq
 rcases h0.2 with ⟨rfl,rfl⟩|⟨g,cap,cur,fz,rfl,hg,hfz,hnc,hcm,hcs,htk⟩
 ·obtain rfl:m=0:=by omega
  have hc0:c=[]:=List.eq_nil_of_length_eq_zero (by simpa using h0.1);subst hc0;have hnews:news=[]:=List.eq_nil_of_length_eq_zero (by simpa using hnl);subst hnews;refine ⟨w,?_,St.back hk (by simpa using hmv)⟩;simp [Builtin.copy_,run_underlying hT.u,sizeOf,typeInfo,hi,his,hlen,hcells]
 ·have hle:m * z≤n * z:=Nat.mul_le_mul_right _ hm
  have hfit:0+news.length≤cur.size:=by
   rw [hnl,Nat.zero_add];exact Nat.le_trans hle (Nat.le_trans (Nat.mul_le_mul_right _ hnc) hcs)
  have hcell:∀ j,j < news.length→(w.cell? ⟨g,0+0+j,none⟩).isSome=true:=fun j hj=>by
   have hlt:j < cur.size:=by omega
   simp only [World.cell?,hg];simp [hlt]
  have hfro:∀ j,j < news.length→w.frozen? ⟨g,0+0+j,none⟩=false:=fun j hj=>by
   have:=hfz j (by omega);simp only [World.frozen?,hg]
   simpa using this
  have hrun:=run_storeCells_cells (P:=P) g 0 news 0 w hcell hfro (fun u hu=>h1 u hu);have hat:=FR g E fz news 0 w cur.toList (by simpa using hg) (by simpa using hfit);obtain ⟨e1,e2,e3⟩:=EF g news 0 w;simp only [Nat.add_zero] at hrun;refine ⟨_,?_,St.back hk (hmv.set e1 e2 e3 ⟨?_,.inr ⟨g,cap,_,fz,rfl,hat,?_,hnc,hcm,?_,?_⟩⟩ (fun b hb=>.inl hb) (fun b _ hne=>EG g news _ w b (fun e=>hne (by simp [J.own,Value.ownBlock,e]))))⟩
  ·simp [Builtin.copy_,run_underlying hT.u,sizeOf,typeInfo,hi,his,hlen,hmin n hm,hcells,hrun]
  ·rw [List.length_append,List.length_drop,hnl,h0.1];omega
  ·intro j hj;refine hfz j ?_;simp only [List.size_toArray,List.length_append,List.length_take,List.length_drop,Array.length_toList] at hj;omega
  ·simp only [List.size_toArray,List.length_append,List.length_take,List.length_drop,Array.length_toList];omega
  ·rw [List.toList_toArray,List.take_zero,List.nil_append,Nat.zero_add,List.take_append,List.take_of_length_le (by omega),← htk,List.drop_take,hnl]
theorem eR {x y:Operand} {k:Nat} {v u:Value} {t tx E:TypeId} {agg:Bool} {z n m:Nat} {zero c news:List Value} {bb:Nat} (V:St S M w) (hx:Ai l x=v) (hy:Ai l y=u) (hk:M[k]? = some (.sl v E z n c)) (hT:SlT P t E) (hE:Ty P E agg z zero bb)
  (hs:Src P z tx u m news w) (h1:∀ u∈news,u.oneCell'=true) (hm:m≤n)
  (h:∀ w',St S (M.set k (.sl v E z n (news++c.drop (m * z)))) w'→wpList P ops Q rest ⟨(l.set d (.int .i64 m)).toArray,D⟩ w') :
  wpList P ops Q (⟨some d,.call { callee:=.builtin .copy,args:=#[x,y],argTypes:=#[t,tx] },ty,pos,af,none⟩::rest) ⟨l.toArray,D⟩ w:=by
 obtain ⟨w',hr,hst'⟩:=Yj (P:=P) (ty:=ty) V hk hT hE hs h1 hm;refine BK (v:=.int .i64 m) (w':=w') ?_ (h _ hst');simp [execOp,resolve,invoke,builtin,hx,hy,hr,goInt]
section
variable {P:Program} {ops:Array Oper} {rest:List Oper} {Q:Exit→Act→World→Prop} {l:List Value} {D:List Deferred} {w:World} {ty:TypeId} {pos:String} {af:Array Edge} {S:Ad} {M:List J} {d:Tmp}
def g9 (v u:Value) (q:Nat):Prop:=∃ g n cap cp,v=.slice (some ⟨g,0,none⟩) n cap∧u=.slice (some ⟨g,0,none⟩) q cp
theorem OS {T E F x hh agg z zero bb v} {k n b:Nat} {c kk} (V:St S M w) (hx:Ai l x=v) (hk:M[k]? = some (.sl v F z n c)) (hi:Ai l hh=.int kk (b:Int)) (hT:SlT P T E) (hE:Ty P E agg z zero bb) (hn:b≤n) (h0:0 < n):∃ u,g9 v u b∧Qt P l (.slice T x none (some hh) none) S M u:=by
 rcases (V.get hk).2 with ⟨rfl,rfl⟩|⟨g,cap,cur,fz,rfl,hg,hfz,hnc,_⟩
 ·omega
 ·refine ⟨.slice (some ⟨g,0,none⟩) b cap,⟨g,n,cap,_,rfl,rfl⟩,fun dst ty pos af w _=>?_⟩;simp only [execOp,hx,Sem.run_bind];rw [Fi hT hE (lo:=(none:Option Operand).map (Ai l)) (hi:=(some hh).map (Ai l)) (mx:=(none:Option Operand).map (Ai l)) (a:=0) (b:=b) (m:=cap) (.inl ⟨rfl,rfl⟩) (.inr ⟨kk,by simp [hi]⟩) (.inl ⟨rfl,rfl⟩) (by omega) (by omega) (Nat.le_refl _) (by simp)];rw [if_neg (by omega)];simp [Addr.add_mid]
theorem ON {x y:Operand} {k:Nat} {v t u:Value} {tT tx E F:TypeId} {agg:Bool} {z n o md q m:Nat} {zero c:List Value} {bb:Nat} (V:St S M w) (hx:Ai l x=t) (hy:Ai l y=u) (hk:M[k]? = some (.sl v F z n c)) (ht:kH v t (o * z) md) (hu:g9 v u q)
  (hT:SlT P tT E) (hE:Ty P E agg z zero bb) (hone:∀ a∈c,a.oneCell'=true) (hmd:o+md=n) (hq:q≤n) (hm:m=min q md)
  (h:∀ w',St S (M.set k (.sl v F z n (c.take (o * z)++c.take (m * z)++c.drop (o * z+m * z)))) w'→wpList P ops Q rest ⟨(l.set d (.int .i64 m)).toArray,D⟩ w') :
  wpList P ops Q (⟨some d,.call { callee:=.builtin .copy,args:=#[x,y],argTypes:=#[tT,tx] },ty,pos,af,none⟩::rest) ⟨l.toArray,D⟩ w:=by
 obtain ⟨g,n',cap,cp,hv,rfl⟩:=ht;obtain ⟨g2,n2,cap2,cp2,hv2,rfl⟩:=hu;obtain rfl:g2=g:=by rw [hv] at hv2;injection hv2 with a;injection a with a;injection a with a;exact a.symm
 obtain ⟨i,hi,hiz,his,hib⟩:=hE.run_bytes;have h0:=V.get hk;have hcl:c.length=n * z:=h0.1;have hsum:o * z+md * z=n * z:=by rw [← Nat.add_mul,hmd]
 have hmz:m * z≤md * z:=Nat.mul_le_mul_right _ (by omega);have hmq:m * z≤n * z:=Nat.mul_le_mul_right _ (by omega);have hlen:(c.take (m * z)).length=m * z:=by rw [List.length_take];omega
 obtain ⟨g1,g2',g3⟩:=ct (o:=o * z) (cs:=c.take (m * z)) V hv hk (by rw [hlen,hcl];omega);rw [hlen] at g1
 have hcell:∀ j a,(c.take (m * z))[j]? = some a→w.cell? ((⟨g2,0,none⟩:Addr).add j)=some a:=by
  intro j a ha;rw [List.getElem?_take] at ha;split at ha
  ·rcases h0.2 with ⟨e,_⟩|⟨g',cap',cur,fz,e,hg,hfz,hnc,hcm,hcs,htk⟩
   ·rw [hv] at e;cases e
   ·rw [hv] at e;obtain rfl:g2=g':=by injection e with a;injection a with a;injection a with a
    rw [Addr.add_mid,Nat.zero_add];simp only [World.cell?,hg];rw [← htk,List.getElem?_take] at ha;split at ha
    ·simpa using ha
    ·cases ha
  ·cases ha
 have hfc:=run_firstCells_some (P:=P) w z m ⟨g2,0,none⟩ q cp2 (c.take (m * z)) hlen hcell;have hrun:=run_storeCells_cells (P:=P) g2 (o * z) (c.take (m * z)) 0 w g2' g3 (fun a ha=>hone a (List.mem_of_mem_take ha));have hmin:Nat.min q md=m:=hm.symm;refine BK (v:=.int .i64 m) (w':=w.setCells g2 (o * z) (c.take (m * z))) ?_ (h _ g1);simp only [Nat.add_zero] at hrun;simp [execOp,resolve,invoke,builtin,hx,hy,goInt,Builtin.copy_,run_underlying hT.u,sizeOf,typeInfo,hi,his,Builtin.lenOf,hmin,hfc,hrun]
end
theorem GR {P S M l T x y z} {b:List UInt8} {k k' i m j n} (hx:Ai l x=.string ⟨b.toArray⟩) (hy:Ai l y=.int k j) (hz:Ai l z=.int k' n) (hj:j=(i:Nat)) (hn:n=(m:Nat)) (hT:StrT P T) (him:i≤m) (hm:m≤b.length):Qt P l (.slice T x (some y) (some z) none) S M (.string ⟨((b.drop i).take (m - i)).toArray⟩):=fun dst ty pos af w _=>by
 subst hj;subst hn;have h:=run_slice_string (P:=P) (w:=w) T ⟨b.toArray⟩ k k' (i:Int) (m:Int) hT.u (by omega) (by omega) (by show (m:Int)≤((b.toArray.size:Nat):Int);rw [List.size_toArray];omega);rw [ByteArray.extract_mk,Int.toNat_natCast,Int.toNat_natCast] at h;simp only [execOp,hx,Sem.run_bind,Option.map_none,Option.map_some,hy,hz];rw [run_sliceAt_string _ T _ _ _ _ hT.u,h];rfl
theorem bN {P S M l T x y z} {b:List UInt8} {k k'} {i n:Nat} (hx:Ai l x=.string ⟨b.toArray⟩) (hy:Ai l y=.int k (i:Int)) (hz:Ai l z=.int k' ((i:Int)+(n:Int))) (hT:StrT P T) (hm:i+n≤b.length):Qt P l (.slice T x (some y) (some z) none) S M (.string ⟨((b.drop i).take n).toArray⟩):=by
 have h:=GR (S:=S) (M:=M) (i:=i) (m:=i+n) hx hy hz rfl (by omega) hT (by omega) hm;rw [Nat.add_sub_cancel_left] at h;exact h
variable {P:Program} {w:World} {l:List Value} {S:Ad} {M:List J}
end Go.Sl
namespace Go.Sl
open Go.ChangeShapes Go.Proofs.YtmmbidoldegemaaGreatDoor Go.RowKit Go.WideShapes
theorem Kv {H:Type} {enc:TypeId×Value→H} {P:Program} (hl:laidOutB P=true) {W W':World} {sp:Nat→Bool}:∀ {ts:List TypeId} {vs:List Value} {ds:List (DataW H)} {ps:List MemPlace},
  (∀ t∈ts,P.readableRec t=true∧t < P.types.size)→DataW.TrodAll enc P W 0 (fun _=>true) true ts vs ds ps→(∀ p∈ps,W.sameAt W' p)→(∀ p∈ps,sp p.block=true) →
  DataW.TrodAll enc P W' 0 sp true ts vs ds ps
 | [],_,_,_,_,h,_,_=>by
  obtain ⟨rfl,rfl,rfl⟩:=trodAll_nil h;exact trodAll_mk0
 | t::ts,_,_,_,hr,h,h1,h2=>by
  obtain ⟨v,vs',d,ds',p,q,rfl,rfl,rfl,h0,r0⟩:=trodAll_cons h
  exact trodAll_cons_mk (WideElems.Trod_stays hl (hr t (.head _)).1 (hr t (.head _)).2 h0 (fun x hx=>h1 x (List.mem_append.2 (.inl hx))) (fun x hx=>h2 x (List.mem_append.2 (.inl hx))))
   (Kv hl (fun t' ht'=>hr t' (.tail _ ht')) r0 (fun x hx=>h1 x (List.mem_append.2 (.inr hx))) (fun x hx=>h2 x (List.mem_append.2 (.inr hx))))
theorem Y8 {H:Type} {enc P f} {s:ChangeSpec} {W W' args ds gs before tb} (hvars:s.vars=[]) (hW:DataW.Whole enc P f.params.toList s.vars false W args.toList ds gs before) (hl:laidOutB P=true) (hr:∀ t∈f.params.toList,P.readableRec t=true∧t < P.types.size) (hres:f.resultTypes = #[tb]) (hb:P.underlying tb=some .bool) (hs1:(s.fn H ds).results=[.lit (.bool true)]) (hs2:(s.fn H ds).args=ds) (hs3:(s.fn H ds).vars=[]) (hB:Below W.heap.size W W'):
  s.post enc P f false true false false W args (.bool true) W':=by
 have hW':=hW;obtain ⟨p,q,hA,hV,rfl,hz,hn⟩:=hW;rw [hvars] at hV;obtain ⟨rfl,rfl⟩:=trodVars_none hV;have hlt:∀ x∈p++[],x.block < W.heap.size:=fun x hx=>by simpa using hW'.lt x hx
 have hsame:∀ x∈p,W.sameAt W' x:=fun x hx=>hB.same (hlt x (by simpa using hx))
 have hargs:∀ sp:Nat→Bool,(∀ x∈p++[],sp x.block=true)→DataW.TrodAll enc P W' 0 sp true f.params.toList args.toList (s.fn H (ds++[])).args p:=fun sp hsp=>by
  rw [List.append_nil,hs2];exact Kv hl hr hA hsame (fun x hx=>hsp x (by simpa using hx))
 have hvs:∀ sp:Nat→Bool,DataW.TrodVars enc P W' sp s.vars (s.fn H (ds++[])).vars []:=fun sp=>by
  rw [List.append_nil,hvars,hs3];rfl
 have hress:∀ (b:Nat) (sp:Nat→Bool) (hd:Bool),DataW.TrodAll enc P W' b sp hd f.resultTypes.toList ((Value.bool true).resultList f.resultTypes.size) (s.fn H (ds++[])).results []:=fun b sp hd=>by
  rw [List.append_nil,hs1,hres];exact trodAll_cons_mk (shut_bool hb _) trodAll_mk0
 have hold:∀ x∈p++[],(fun b=>decide (b < W.heap.size)) x.block=true:=fun x hx=>by simpa using hlt x hx
 refine ⟨ds,[],p++[],[],p,[],hW',hress _ _ _,hargs _ hold,hvs _,World.keptBut_mono (fun x hx=>⟨hx,?_⟩) (hB.frame (·∈p++[])),fun _=>?_⟩
 ·exact Or.inr (by simpa using hx)
 ·refine ⟨ok_one hres rfl (okWide_bool_mk hb _),_,_,([]++p)++[],⟨[]++p,[],trodAll_append (hargs _ (fun _ _=>rfl)) (hress _ _ _),hvs _,rfl,?_,?_⟩,?_⟩
  ·intro b off L;have hp':MemPlace.cell b off∈p++[]:=by simpa using L
   have:=hlt _ hp';rw [hB.frozen (by simpa [MemPlace.block] using this)];exact hz b off hp'
  ·intro ha;cases ha
  ·intro x hx _
   simpa using hx
theorem Qb {H:Type} {enc:TypeId×Value→H} {P W T} {α:Type} [Z α] [Siz α] [Opens P T α] {b0 sp} {held:Bool} {v d p} (h:DataW.Trod enc P W b0 sp held T v d p):
  ∃ y:α,Z.R (DN W) v.cells.toList y∧Siz.siz y≤Rows.uptoBulk d:=by
 obtain ⟨n,hn⟩:=h;exact Opens.opens hn
theorem Vk {H:Type} {ds} (hk:Rows.uptoSmall H ds=true):Rows.uptoBulkAll ds≤1048576:=by simpa [Rows.uptoSmall] using hk
end Go.Sl
namespace Go.Sl
open Go.RowKit
theorem nX {p q:Prop} (hq:q) (h:p=q:=by first|(simp only [List.set_cons_succ,List.set_cons_zero,AB,Ap,List.drop_succ_cons,List.drop_zero,List.take_succ_cons,List.take_zero,Bq,Int.toNat_zero,Int.reduceToNat,Nat.mul_one,Nat.zero_add,Nat.add_zero,Nat.reduceMul,Nat.reduceAdd,Nat.zero_mul,Int.reduceSub,Int.reduceAdd,Int.reduceMul,Int.reduceNeg,Bool.not_true,Bool.not_false];exact rfl)|exact rfl):p:=h.symm▸hq
theorem nY {p q:Prop} (hq:q) (h:p=q:=by first|(simp only [Int.toNat_natCast,List.set_cons_succ,List.set_cons_zero,AB,Ap,List.drop_succ_cons,List.drop_zero,List.take_succ_cons,List.take_zero,Bq,Int.toNat_zero,Int.reduceToNat,Nat.mul_one,Nat.zero_add,Nat.add_zero,Nat.reduceMul,Nat.reduceAdd,Nat.zero_mul,Int.reduceSub,Int.reduceAdd,Int.reduceMul,Int.reduceNeg,Bool.not_true,Bool.not_false];exact rfl)|exact rfl):p:=h.symm▸hq
theorem nH {p q:Prop} (L:p) (h:p=q:=by first|(simp only [List.set_cons_succ,List.set_cons_zero,List.drop_succ_cons,List.drop_zero,List.take_succ_cons,List.take_zero,List.nil_append,List.cons_append,List.append_nil,Value.cells,List.eraseIdx_cons_zero,List.eraseIdx_cons_succ,Nat.zero_add,Nat.add_zero,List.flatten_cons,List.flatten_nil,List.map_cons,List.map_nil];exact rfl)|exact rfl):q:=h▸L
structure Kp (R:Prop):Prop where
 o:R
theorem eX {α:Sort _} {p q:α} (h:p=q:=by first|(simp only [List.set_cons_succ,List.set_cons_zero,AB,Ap,List.drop_succ_cons,List.drop_zero,List.take_succ_cons,List.take_zero,Bq,Int.toNat_zero,Int.reduceToNat,Nat.mul_one,Nat.zero_add,Nat.add_zero,Nat.reduceMul,Nat.reduceAdd,Nat.zero_mul,Int.reduceSub,Int.reduceAdd,Int.reduceMul,Int.reduceNeg,Bool.not_true,Bool.not_false];exact rfl)|exact rfl):p=q:=h
theorem eY {α:Sort _} {p q:α} (h:p=q:=by first|(simp only [Int.toNat_natCast,List.set_cons_succ,List.set_cons_zero,AB,Ap,List.drop_succ_cons,List.drop_zero,List.take_succ_cons,List.take_zero,Bq,Int.toNat_zero,Int.reduceToNat,Nat.mul_one,Nat.zero_add,Nat.add_zero,Nat.reduceMul,Nat.reduceAdd,Nat.zero_mul,Int.reduceSub,Int.reduceAdd,Int.reduceMul,Int.reduceNeg,Bool.not_true,Bool.not_false];exact rfl)|exact rfl):p=q:=h
theorem kC:type_of% @k_call:=@k_call
theorem kL:type_of% @k_load:=@k_load
theorem kB:type_of% @k_bin:=@k_bin
theorem kF:type_of% @k_field:=@k_field
theorem kI:type_of% @k_index:=@k_index
theorem kU:type_of% @k_build:=@k_build
theorem kV:type_of% @k_conv:=@k_conv
theorem kX:type_of% @k_indexV:=@k_indexV
theorem kS:type_of% @k_store:=@k_store
theorem kr {α:Sort _} {a b:α} (h:a=b:=by kernel_rfl):a=b:=h
theorem gX {Gqq:Prop} (k:False:=by simp only [decide_eq_true_eq,decide_eq_false_iff_not,Bool.not_false,Bool.not_true,beq_iff_eq,beq_eq_false_iff_ne,ne_eq] at hg;omega):Gqq:=k.elim
theorem gN {p q:Prop} (L:p) (h:p=q:=by first|(simp only [decide_eq_true_eq,decide_eq_false_iff_not,Bool.not_false,Bool.not_true,beq_iff_eq,beq_eq_false_iff_ne,bne_iff_ne,bne_eq_false_iff_eq,ne_eq];exact rfl)|exact rfl):q:=h▸L
theorem sc {P ops} {Q:Exit→Act→World→Prop} {rest D l w ty pos af f} {xs:List Operand} {ats args dd} {post:Value→World→Prop} {Gqq:Prop} (c:Ac P f args w post) (h:Gqq) (hb:Body P f:=by infer_instance) (ha:xs.map (Ai l)=args:=by rfl) (e:(∀ v w',post v w'→wpList P ops Q rest ⟨(Bq l dd v).toArray,D⟩ w')=Gqq:=by exact eY):wpList P ops Q (⟨dd,.call { callee:=.value (.func f),args:=xs.toArray,argTypes:=ats },ty,pos,af,none⟩::rest) ⟨l.toArray,D⟩ w:=BG c hb ha (e.symm▸h)
theorem kA {P ops} {Q:Exit→Act→World→Prop} {rest dd T ty pos af g a w} (h:wpList P ops Q (⟨dd,.alloc T,ty,pos,af,g⟩::rest) a w):wpList P ops Q (⟨dd,.alloc T,ty,pos,af,g⟩::rest) a w:=h
theorem kO {P ops} {Q:Exit→Act→World→Prop} {rest dd T ty x pos af g a w} (h:wpList P ops Q (⟨dd,.box T x,ty,pos,af,g⟩::rest) a w):wpList P ops Q (⟨dd,.box T x,ty,pos,af,g⟩::rest) a w:=h
theorem Ma {p q:Prop} (_:Unit) (h:p=q:=by exact eX) (hq:q):p:=h.symm▸hq
theorem L9 {p q:Prop} (_:Unit) (h:p=q:=by exact eY) (hq:q):p:=h.symm▸hq
theorem nZ {p q:Prop} (_:Unit) (k:Kp q→p:=by intro G;(try simp only [Int.toNat_natCast,List.set_cons_succ,List.set_cons_zero,AB,Ap,List.drop_succ_cons,List.drop_zero,List.take_succ_cons,List.take_zero,Bq,Int.toNat_zero,Int.reduceToNat,Nat.mul_one,Nat.zero_add,Nat.add_zero,Nat.reduceMul,Nat.reduceAdd,Nat.zero_mul,Int.reduceSub,Int.reduceAdd,Int.reduceMul,Int.reduceNeg,Bool.not_true,Bool.not_false]);exact (G.o:)) (h:q):p:=k ⟨h⟩
theorem tL {Gqq:Prop} (_:Unit) (k:Kp Gqq→Gqq:=by intro G;with_reducible refine Sl.k_load ?_;exact (G.o:)) (h:Gqq):Gqq:=k ⟨h⟩
theorem tB {Gqq:Prop} (_:Unit) (k:Kp Gqq→Gqq:=by intro G;with_reducible refine Sl.k_bin ?_;exact (G.o:)) (h:Gqq):Gqq:=k ⟨h⟩
theorem tF {Gqq:Prop} (_:Unit) (k:Kp Gqq→Gqq:=by intro G;with_reducible refine Sl.k_field ?_;exact (G.o:)) (h:Gqq):Gqq:=k ⟨h⟩
theorem tI {Gqq:Prop} (_:Unit) (k:Kp Gqq→Gqq:=by intro G;with_reducible refine Sl.k_index ?_;exact (G.o:)) (h:Gqq):Gqq:=k ⟨h⟩
theorem tU {Gqq:Prop} (_:Unit) (k:Kp Gqq→Gqq:=by intro G;with_reducible refine Sl.k_build ?_;exact (G.o:)) (h:Gqq):Gqq:=k ⟨h⟩
theorem tV {Gqq:Prop} (_:Unit) (k:Kp Gqq→Gqq:=by intro G;with_reducible refine Sl.k_conv ?_;exact (G.o:)) (h:Gqq):Gqq:=k ⟨h⟩
theorem tN {Gqq:Prop} (_:Unit) (k:Kp Gqq→Gqq:=by intro G;with_reducible refine Sl.k_un ?_;exact (G.o:)) (h:Gqq):Gqq:=k ⟨h⟩
theorem tX {Gqq:Prop} (_:Unit) (k:Kp Gqq→Gqq:=by intro G;with_reducible refine Sl.k_indexV ?_;exact (G.o:)) (h:Gqq):Gqq:=k ⟨h⟩
theorem tS {Gqq:Prop} (_:Unit) (k:Kp Gqq→Gqq:=by intro G;with_reducible refine Sl.k_store ?_;exact (G.o:)) (h:Gqq):Gqq:=k ⟨h⟩
theorem nW {p q:Prop} (_:Unit) (k:Kp q→p:=by intro G;(try simp only [List.set_cons_succ,List.set_cons_zero,AB,Ap,List.drop_succ_cons,List.drop_zero,List.take_succ_cons,List.take_zero,Bq,Int.toNat_zero,Int.reduceToNat,Nat.mul_one,Nat.zero_add,Nat.add_zero,Nat.reduceMul,Nat.reduceAdd,Nat.zero_mul,Int.reduceSub,Int.reduceAdd,Int.reduceMul,Int.reduceNeg,Bool.not_true,Bool.not_false]);exact (G.o:)) (h:q):p:=k ⟨h⟩
theorem kc {Gqq:Prop} (_:Unit) (k:Kp Gqq→Gqq:=by intro G;with_reducible refine Sl.k_call ?_;exact (G.o:)) (h:Gqq):Gqq:=k ⟨h⟩
theorem O {Gqq:Prop} (_:Unit) (k:Kp Gqq→Gqq:=by intro G;first|((fail_if_success (go_big_may));exact (G.o:))|(with_reducible refine Sl.gate rfl ?_;exact (G.o:))|fail) (h:Gqq):Gqq:=k ⟨h⟩
theorem sK {Gqq R:Prop} (_:Unit) (k:Kp R→Gqq:=by intro G;first|((with_reducible refine Sl.k_bin ?_;refine Ag V (by first|exact Do rfl rfl Ak|exact Ga rfl rfl Ak|exact Kg rfl rfl Ak|exact D6 rfl rfl Ak|exact YD rfl rfl Ak|exact YC rfl rfl Ak) ?_);(try apply L9 ());exact (G.o:))|fail) (h:R):Gqq:=k ⟨h⟩
theorem sG {Gqq R:Prop} (_:Unit) (k:Kp R→Gqq:=by intro G;first|((with_reducible refine Sl.k_guard ?_;(first|(refine Sl.guard_yes rfl ?_)|(refine Sl.guard_no rfl ?_)));(try apply L9 ());exact (G.o:))|fail) (h:R):Gqq:=k ⟨h⟩
theorem sX {Gqq R:Prop} (_:Unit) (k:Kp R→Gqq:=by
 intro G;first
 | (with_reducible refine Sl.k_load ?_;refine Ag V (by exact AT rfl _ N.h Y rfl rfl) ?_);(try apply Ma ());exact (G.o:)
 | (with_reducible refine Sl.k_field ?_;refine Ag V (Et rfl Y) ?_);(try apply Ma ());exact (G.o:)
 | (with_reducible refine Sl.k_call ?_;refine Ag V (by first|exact EH X Ak Y|exact Ie X SlIn.h Y) ?_);(try apply Ma ());exact (G.o:)
 | fail) (h:R):Gqq:=k ⟨h⟩
theorem sY {Gqq R:Prop} (_:Unit) (k:Kp R→Gqq:=by
 intro G;first
 | (with_reducible refine Sl.k_load ?_;refine Ag V (by exact AT rfl _ N.h Y rfl rfl) ?_);(try apply L9 ());exact (G.o:)
 | (with_reducible refine Sl.k_field ?_;refine Ag V (Et rfl Y) ?_);(try apply L9 ());exact (G.o:)
 | (with_reducible refine Sl.k_call ?_;refine Ag V (by first|exact EH X Ak Y|exact Ie X SlIn.h Y) ?_);(try apply L9 ());exact (G.o:)
 | fail) (h:R):Gqq:=k ⟨h⟩
theorem sP {Gqq R:Prop} (_:Unit) (k:Kp R→Gqq:=by intro G;first|(with_reducible refine Sl.k_load ?_;refine Ag V (by exact BW X Ak Y Y rfl) ?_;(try apply L9 ());exact (G.o:))|fail) (h:R):Gqq:=k ⟨h⟩
theorem sS {Gqq R:Prop} (_:Unit) (k:Kp R→Gqq:=by intro G;first|(with_reducible refine Sl.k_store ?_;refine Ax V rfl _ N.h Y X rfl A3 A2 (by simp) ?_;intro w V;(try apply Ma ());(try replace V:=nH V);revert w;exact (G.o:))|fail) (h:R):Gqq:=k ⟨h⟩
theorem sT {Gqq R:Prop} (_:Unit) (k:Kp R→Gqq:=by intro G;first|(with_reducible refine Sl.k_store ?_;refine Ax V rfl _ N.h Y X rfl A3 A2 (by simp) ?_;intro w V;(try apply L9 ());(try replace V:=nH V);revert w;exact (G.o:))|fail) (h:R):Gqq:=k ⟨h⟩
theorem sB {Gqq R:Prop} (_:Unit) (k:Kp R→Gqq:=by intro G;first|(with_reducible refine kO ?_;refine I5 V X rfl ?_;intro bx w V;(try apply Ma ());(try replace V:=nH V);revert bx w;exact (G.o:))|fail) (h:R):Gqq:=k ⟨h⟩
theorem sA {Gqq R:Prop} (_:Unit) (k:Kp R→Gqq:=by intro G;first|(with_reducible refine kA ?_;refine BF V Y ?_;intro bx w V;(try apply Ma ());(try replace V:=nH V);revert bx w;exact (G.o:))|fail) (h:R):Gqq:=k ⟨h⟩
theorem sC {Gqq R:Prop} (_:Unit) (k:Kp R→Gqq:=by intro G;first|(with_reducible refine kO ?_;refine I5 V X rfl ?_;intro bx w V;(try apply L9 ());(try replace V:=nH V);revert bx w;exact (G.o:))|fail) (h:R):Gqq:=k ⟨h⟩
theorem sZ {Gqq R:Prop} (_:Unit) (k:Kp R→Gqq:=by intro G;first|(with_reducible refine kA ?_;refine BF V Y ?_;intro bx w V;(try apply L9 ());(try replace V:=nH V);revert bx w;exact (G.o:))|fail) (h:R):Gqq:=k ⟨h⟩
theorem sI {Gqq R:Prop} (_:Unit) (k:Kp R→Gqq:=by intro G;first|((first|(with_reducible refine Sl.k_index ?_;refine An V (Aq X Ak rfl Y Y Af Af) ?_)|(with_reducible refine Sl.k_field ?_;refine An V (As X Ak Y Y rfl) ?_));rintro v L;(try simp only [Int.toNat_natCast,Int.toNat_natCast_add_one,Int.reduceToNat] at L);(try apply Ma ());revert v;exact (G.o:))|fail) (h:R):Gqq:=k ⟨h⟩
theorem sJ {Gqq R:Prop} (_:Unit) (k:Kp R→Gqq:=by intro G;first|((first|(with_reducible refine Sl.k_index ?_;refine An V (Aq X Ak rfl Y Y Af Af) ?_)|(with_reducible refine Sl.k_field ?_;refine An V (As X Ak Y Y rfl) ?_));rintro v L;(try simp only [Int.toNat_natCast,Int.toNat_natCast_add_one,Int.reduceToNat] at L);(try apply L9 ());revert v;exact (G.o:))|fail) (h:R):Gqq:=k ⟨h⟩
theorem sN {Gqq R:Prop} (_:Unit) (k:Kp R→Gqq:=by intro G;first|(with_reducible refine Sl.k_load ?_;refine An V (Am X Ak Y) ?_;rintro v ⟨rfl,hI⟩;(try apply Ma ());revert hI;exact (G.o:))|fail) (h:R):Gqq:=k ⟨h⟩
theorem sD {Gqq R:Prop} (_:Unit) (k:Kp R→Gqq:=by intro G;first|(with_reducible refine Sl.k_load ?_;refine An V (Aw X Ak Y) ?_;rintro v ⟨cl,rfl,hcl⟩;(try apply Ma ());revert cl;exact (G.o:))|fail) (h:R):Gqq:=k ⟨h⟩
theorem sL {Gqq R:Prop} (_:Unit) (k:Kp R→Gqq:=by intro G;first|(with_reducible refine Sl.k_load ?_;refine An V (Aj X Ak Y) ?_;rintro v ⟨hvl,hv1⟩;(try apply Ma ());revert v;exact (G.o:))|fail) (h:R):Gqq:=k ⟨h⟩
structure At (n:Nat):Prop
theorem FY {n} (_:At n) {P ops nx} {Q:Exit→Act→World→Prop} {a w} (h:Code.wp P (Code.region n ops nx) Q a w):Code.wp P (Code.region n ops nx) Q a w:=h
theorem ZZ (n) {Gqq R:Prop} (k:At n→Kp R→Gqq:=by intro hA;(fail_if_success (with_reducible refine fun _=>FY hA ?_));exact Kp.o) (h:R):Gqq:=k ⟨⟩ ⟨h⟩
theorem iN {p q:Prop} (L:p) (h:p=q:=by first|(simp only [Int.toNat_natCast,Int.toNat_natCast_add_one,Int.reduceToNat];exact rfl)|exact rfl):q:=h▸L
section
variable {P:Program} {lo:List Oper} {Q:Exit→Act→World→Prop} {K:Act→World→Prop} {S S0:Ad} {M:List J} {l:List Value} {D:List Deferred} {w:World} {bs:List Bool} {f:Nat} {o:Oper} {v:Value} {Gqq:Prop}
theorem pt (k:Nat) (ho:lo[k]? = some o) (hq:Qt P l o.op S0 [] v) (h:Gqq) (hQ:FZ Q:=by repeat (first|with_reducible refine Jw ?_|with_reducible refine II ?_|exact Jx)) (hs:Region.noSelect lo.toArray=true:=by kernel_rfl) (hf:Region.free .any lo.toArray bs.toArray k=true:=by kernel_rfl) (hr:(Region.ready .any lo.toArray bs.toArray).contains k=true:=by kernel_rfl)
  (hw:Region.wanted o (yielded lo.toArray l.toArray)=true:=by rfl) (hc:St S0 [] w:=by exact St.cls hSS V) (e:ER P lo Q S0 f (bs.set k true) (Bq l o.dst v) D w=Gqq:=by exact eY):ER P lo Q S0 (f+1) bs l D w:=N8 k hQ ho hs hf hr hw hc hq (e.symm▸h)
theorem pd (k:Nat) (ho:lo[k]? = some o) (h:Gqq) (hq:Qt P l o.op S0 [] v:=by first|exact Dn X|exact OW X|exact Ng rfl rfl|exact AT rfl _ N.h Y rfl rfl|exact Et rfl Y|exact OT rfl X|exact KU rfl X|exact P0 rfl|exact EH X Ak Y) (hQ:FZ Q:=by repeat (first|with_reducible refine Jw ?_|with_reducible refine II ?_|exact Jx)) (hs:Region.noSelect lo.toArray=true:=by kernel_rfl) (hf:Region.free .any lo.toArray bs.toArray k=true:=by kernel_rfl) (hr:(Region.ready .any lo.toArray bs.toArray).contains k=true:=by kernel_rfl)
  (hw:Region.wanted o (yielded lo.toArray l.toArray)=true:=by rfl) (hc:St S0 [] w:=by exact St.cls hSS V) (e:ER P lo Q S0 f (bs.set k true) (Bq l o.dst v) D w=Gqq:=by exact eY):ER P lo Q S0 (f+1) bs l D w:=N8 k hQ ho hs hf hr hw hc hq (e.symm▸h)
theorem px (k:Nat) {F:Value→Prop} (ho:lo[k]? = some o) (hq:∃ v,F v∧Qt P l o.op S0 [] v) (h:Gqq) (hQ:FZ Q:=by repeat (first|with_reducible refine Jw ?_|with_reducible refine II ?_|exact Jx)) (hs:Region.noSelect lo.toArray=true:=by kernel_rfl) (hf:Region.free .any lo.toArray bs.toArray k=true:=by kernel_rfl) (hr:(Region.ready .any lo.toArray bs.toArray).contains k=true:=by kernel_rfl)
  (hw:Region.wanted o (yielded lo.toArray l.toArray)=true:=by rfl) (hc:St S0 [] w:=by exact St.cls hSS V) (e:(∀ v,F v→ER P lo Q S0 f (bs.set k true) (Bq l o.dst v) D w)=Gqq:=by exact eY):ER P lo Q S0 (f+1) bs l D w:=YF k hQ ho hs hf hr hw hc hq (e.symm▸h)
theorem po (k:Nat) (ho:lo[k]? = some o) (h:∀ K,Hi P lo Q S0 f (bs.set k true) K→wpList P lo.toArray (Exit.then K Q) [o] ⟨l.toArray,D⟩ w) (hr:Region.ready .any lo.toArray bs.toArray=[k]:=by kernel_rfl):ER P lo Q S0 (f+1) bs l D w:=fC k ho hr h
theorem pn {ops:Array Oper} {Q':Exit→Act→World→Prop} (G:Hi P lo Q S0 f bs K) (h:Gqq) (hc:St S0 [] w:=by exact St.cls hSS V) (e:ER P lo Q S0 f bs l D w=Gqq:=by exact eY):wpList P ops (Exit.then K Q') [] ⟨l.toArray,D⟩ w:=bP G hc (e.symm▸h)
theorem tq (k:Nat) (ho:lo[k]? = some o) (hq:Qt P l o.op S M v) (h:Gqq) (hok:Fc lo bs k=true:=by kernel_rfl) (hns:D7 o=false:=by rfl) (hw:Region.wanted o (yielded lo.toArray l.toArray)=true:=by rfl)
  (e:BC P lo Q f S M (bs.set k true) (Bq l o.dst v) D=Gqq:=by exact eY):BC P lo Q (f+1) S M bs l D:=Te k ho hok hns hw hq (e.symm▸h)
theorem td (k:Nat) (ho:lo[k]? = some o) (h:Gqq) (hq:Qt P l o.op S M v:=by first|exact Dn X|exact OW X|exact Ng rfl rfl|exact AT rfl _ N.h Y rfl rfl|exact Et rfl Y|exact OT rfl X|exact KU rfl X|exact P0 rfl|exact EH X Ak Y) (hok:Fc lo bs k=true:=by kernel_rfl) (hns:D7 o=false:=by rfl) (hw:Region.wanted o (yielded lo.toArray l.toArray)=true:=by rfl)
  (e:BC P lo Q f S M (bs.set k true) (Bq l o.dst v) D=Gqq:=by exact eY):BC P lo Q (f+1) S M bs l D:=Te k ho hok hns hw hq (e.symm▸h)
theorem tx (k:Nat) {F:Value→Prop} (ho:lo[k]? = some o) (hq:∃ v,F v∧Qt P l o.op S M v) (h:Gqq) (hok:Fc lo bs k=true:=by kernel_rfl) (hns:D7 o=false:=by rfl) (hw:Region.wanted o (yielded lo.toArray l.toArray)=true:=by rfl)
  (e:(∀ v,F v→BC P lo Q f S M (bs.set k true) (Bq l o.dst v) D)=Gqq:=by exact eY):BC P lo Q (f+1) S M bs l D:=im k ho hok hns hw hq (e.symm▸h)
theorem tz (k:Nat) (ho:lo[k]? = some o) (h:Gqq) (hok:Fc lo bs k=true:=by kernel_rfl) (hns:D7 o=false:=by rfl) (hw:Region.wanted o (yielded lo.toArray l.toArray)=false:=by rfl)
  (e:BC P lo Q f S M (bs.set k true) (Bq l o.dst undef) D=Gqq:=by exact eY):BC P lo Q (f+1) S M bs l D:=kY k ho hok hns hw (e.symm▸h)
end
end Go.Sl
