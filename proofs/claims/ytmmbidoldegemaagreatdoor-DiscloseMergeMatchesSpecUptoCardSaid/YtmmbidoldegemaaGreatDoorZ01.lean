/- Part 2 of the proof that the law of the last part holds; no conditions. -/
import Derived.Deep.RegionHeld3
import Derived.Recover
import Derived.RangeFuncRecord
import Derived.Laws.Strings2
import Derived.OrdersIn
import Derived.DeepKeys3
import Derived.Lib.SliceRun
import Derived.WalkKit
import Derived.ProofKit
import Derived.OpenShut
import Derived.JoinedCond
import Derived.Carry
import Derived.Test.YtmmbidoldegemaaGreatDoorZ00
set_option linter.unusedSimpArgs false
set_option linter.unusedVariables false
set_option maxRecDepth 8000
set_option maxHeartbeats 8000000
namespace Go.Sl
open Go.RowKit
theorem St.suf {S S':Ac} {M M':List Chunk} {w:World} (hS:S.Le S') (hM:Suf M M') (h:St S' M' w):St S M w:=by
 obtain ⟨N,rfl⟩:=hM.h;clear hM
 induction N with
 | nil=>exact St.weaken hS h
 | cons c N ih=>exact ih h.drop
theorem Suf.refl (M:List Chunk):Suf M M:=⟨[],rfl⟩
theorem Suf.trans {A B C:List Chunk} (h:Suf A B) (k:Suf B C):Suf A C:=by
 obtain ⟨N,rfl⟩:=h.h;obtain ⟨N',rfl⟩:=k.h;exact ⟨N'++N,by rw [List.append_assoc]⟩
theorem Suf.cons {A B:List Chunk} {c:Chunk} (h:Suf A B):Suf A (c::B):=by
 obtain ⟨N,rfl⟩:=h.h;exact ⟨c::N,rfl⟩
theorem Suf.slIn {M M':List Chunk} {v:Value} {k z n:Nat} {T:TypeId} {c:List Value} (i:Suf M M') (h:SlIn M v k T z n c):∃ k',SlIn M' v k' T z n c:=by
 obtain ⟨N,rfl⟩:=i.h;exact ⟨N.length+k,⟨by rw [List.getElem?_append_right (by omega),Nat.add_sub_cancel_left];exact h.h⟩⟩
def DH (o:Oper):Bool:=match o.op with|.store ..=>true|.call c=>(match c.callee with|.builtin .append=>true|_=>false)|_=>false
section
variable {P:Program} {lo:List Oper} {Q:Exit→Act→World→Prop}
def Bt (P:Program) (lo:List Oper) (Q:Exit→Act→World→Prop):Nat→Ac→List Chunk→List Bool→List Value→List Deferred→Prop
 | 0,S,M,bs,l,D=>Region.ready .any lo.toArray bs.toArray=[]∧∀ w,St S M w→Q .normal ⟨l.toArray,D⟩ w
 | f+1,S,M,bs,l,D=>(Region.ready .any lo.toArray bs.toArray=[]→∀ w,St S M w→Q .normal ⟨l.toArray,D⟩ w) ∧
  ∀ j∈Region.ready .any lo.toArray bs.toArray,∀ w,St S M w →
   wpOp P lo.toArray (NoPanic Q) j (fun a' w'=>∃ S' M' l',((∃ o,lo[j]? = some o∧DH o=true)∨(S.Le S'∧Suf M M'))∧a'=⟨l'.toArray,D⟩∧St S' M' w'∧Bt P lo Q f S' M' (bs.set j true) l' D) ⟨l.toArray,D⟩ w
theorem Ef (bs:List Bool) (j:Nat):bs.toArray.setIfInBounds j true=(bs.set j true).toArray:=by simp
theorem LS:∀ (f:Nat) (S:Ac) (M:List Chunk) (bs:List Bool) (l:List Value) (D:List Deferred) (w:World),Bt P lo Q f S M bs l D→St S M w →
  wpAny P .any lo.toArray (NoPanic Q) f bs.toArray ⟨l.toArray,D⟩ w
 | 0,S,M,bs,l,D,w,h,hst=>⟨h.1,NoPanic.normal (h.2 w hst)⟩
 | f+1,S,M,bs,l,D,w,h,hst=>by
  refine ⟨fun e=>NoPanic.normal (h.1 e w hst),fun j hj=>wpOp_mono (fun a' w' h'=>?_) (h.2 j hj w hst)⟩;obtain ⟨S',M',l',_,rfl,h1,h2⟩:=h';rw [Ef];exact LS f S' M' _ l' D w' h2 h1
theorem AF {S:Ac} {M:List Chunk} {l:List Value} {D:List Deferred} {w:World} {id:Nat} (hst:St S M w) (hm:P.follows .mixedOrders=true) (h:let ops:=lo;Bt P ops Q ops.length S M (List.replicate ops.length false) l D) :
  (Code.region id lo.toArray true).wp P Q ⟨l.toArray,D⟩ w:=by
 refine wp_region_noPanic (wp_region_any hm ?_);have:=LS _ _ _ _ _ _ _ h hst.drew
 simpa using this
theorem ND {i j:Nat} {oi oj:Oper} {v:Value} (hj:lo.toArray[j]? = some oj) (hap:oi.apart lo.toArray oj=true)
  (hsi:∀ cs b,oi.op≠.select cs b) (hsj:∀ cs b,oj.op≠.select cs b) {K:Act→World→Prop} {a:Act} {w:World} (h:wpOp P lo.toArray (NoPanic Q) j K (a.put oi.dst v) w) :
  wpOp P lo.toArray (NoPanic Q) j (fun a' w'=>(execOp a'.eval oi=execOp a.eval oi∧Region.wanted oi (yielded lo.toArray a'.tmps)=Region.wanted oi (yielded lo.toArray a.tmps))∧K (a'.put oi.dst v) w') a w:=by
 obtain ⟨h1,h2,h3⟩:=Oper.apart_spec hap
 have keep:∀ (a:Act) (u:Value),execOp (a.put oj.dst u).eval oi=execOp a.eval oi∧Region.wanted oi (yielded lo.toArray (a.put oj.dst u).tmps)=Region.wanted oi (yielded lo.toArray a.tmps) :=
  fun a u=>⟨execOp_put oi hsi a oj.dst u h3,wanted_put oi a oj.dst u h3⟩
 unfold wpOp at *;simp only [hj] at *;rw [wanted_put oj a oi.dst v h1] at h;split
 ·rename_i hw;simp only [hw,if_true] at h;rcases h with h|⟨_,a0,w0,hf⟩
  case inr=>exact .inr ⟨by rename_i hasks;unfold Oper.asks at *;rw [execOp_put oj hsj a oi.dst v h1] at hasks;exact hasks,a0,w0,hf⟩
  refine .inl ?_;unfold Oper.wp at *;rw [execOp_put oj hsj a oi.dst v h1] at h;generalize (execOp a.eval oj).run P w=r at *
  cases r with
  | ok n w' =>
   cases n<;>simp only [Oper.upon] at h ⊢
   case value u=>exact ⟨keep a u,by rw [← Act.put_comm a v u h2];exact h⟩
   case skip=>exact ⟨keep a _,by rw [← Act.put_comm a v undef h2];exact h⟩
   case defer d =>
    have hk:=keep { a with defers:=d::a.defers } undef;refine ⟨hk,?_⟩;rw [← Act.put_comm _ v undef h2,← Act.put_defers];exact h
   case enter f args =>
    refine Calls.mono h fun e w'' he=>?_
    cases e with
    | returned u=>exact ⟨keep a u,by rw [← Act.put_comm a v u h2];exact he⟩
    | panicked c=>exact he
    | outgrown=>exact he
   case row row args=>exact Rows.mono h fun u w'' he=>⟨keep a u,by rw [← Act.put_comm a v u h2];exact he⟩
  | halt x w' =>
   cases x<;>simp only [Oper.upon] at h ⊢
   case panic u=>exact h
 ·rename_i hw;simp only [hw] at h;exact ⟨keep a _,by rw [← Act.put_comm a v undef h2];exact h⟩
def KF (lo:List Oper):Nat→Nat→Nat→Bool
 | 0,_,_=>false
 | f+1,j,i=>match lo[j]? with|some o=>o.after.any (fun e=>Region.binds .any e && (e.on == i || KF lo f e.on i))|none=>false
def RD (lo:List Oper) (bs:List Bool):Bool :=
 (List.range lo.length).all fun k=>!bs.getD k false || match lo[k]? with|some o=>o.after.all (fun e=>!Region.binds .any e || bs.getD e.on false)|none=>true
def RZ (lo:List Oper) (bs:List Bool) (i:Nat):Bool :=
 (List.range lo.length).all fun k=>bs.getD k true || match lo[k]? with|some o=>!DH o || KF lo lo.length k i|none=>true
def EI (lo:List Oper) (bs:List Bool) (i:Nat):Bool :=
 Region.noSelect lo.toArray && Region.free .any lo.toArray bs.toArray i && (Region.ready .any lo.toArray bs.toArray).contains i && RZ lo bs i && RD lo bs
def P7 (lo:List Oper) (bs:List Bool):Prop:=∀ k o,lo[k]? = some o→bs.toArray.getD k false=true→∀ e∈o.after,Region.binds .any e=true→bs.toArray.getD e.on false=true
theorem PO {bs:List Bool} (h:RD lo bs=true):P7 lo bs:=by
 intro k o ho hk e he hb;have hlt:k < lo.length:=(List.getElem?_eq_some_iff.1 ho).1;have:=List.all_eq_true.1 h k (List.mem_range.2 hlt);have hk':bs.getD k false=true:=by simpa using hk
 rw [hk',ho] at this;simp only [Bool.not_true,Bool.false_or] at this;obtain ⟨x,hx,rfl⟩:=Array.getElem_of_mem he;have:=Array.all_eq_true.1 this x hx;rw [hb] at this
 simpa using this
theorem JW {bs:List Bool} (hc:P7 lo bs):∀ (f j i:Nat) (o:Oper),lo[j]? = some o→(∀ e∈o.after,Region.binds .any e=true→bs.toArray.getD e.on false=true)→KF lo f j i=true→bs.toArray.getD i false=true
 | 0,_,_,_,_,_,h=>by cases h
 | f+1,j,i,o,ho,hall,h=>by
  rw [KF,ho] at h;simp only [Array.any_eq_true,Bool.and_eq_true,Bool.or_eq_true,beq_iff_eq] at h;obtain ⟨x,hx,hb,h⟩:=h;have hl:=hall _ (Array.getElem_mem hx) hb;rcases h with rfl|h
  ·exact hl
  ·cases ho':lo[(o.after[x]).on]? with
   | none =>
    exfalso
    cases f with
    | zero=>cases h
    | succ f=>rw [KF,ho'] at h;cases h
   | some o'=>exact JW hc f _ i o' ho' (fun e he hb=>hc _ o' ho' hl e he hb) h
def YX (P:Program) (S:Ac) (M:List Chunk) (l:List Value) (o:Oper) (v:Value):Prop :=
 ∀ S' M' w,S.Le S'→Suf M M'→St S' M' w→Oper.quietUpon P (St S' M') w v ((execOp (Ai l) o).run P w)
theorem YX.ext {S S':Ac} {M M':List Chunk} {l:List Value} {o:Oper} {v:Value} (h:YX P S M l o v) (hS:S.Le S') (hM:Suf M M'):YX P S' M' l o v :=
 fun S2 M2 w h1 h2 h3=>h S2 M2 w (hS.trans h1) (hM.trans h2) h3
theorem EA (l:List Value) (D:List Deferred) (d:Option Tmp) (v:Value):(⟨l.toArray,D⟩:Act).put d v=⟨(A0 l d v).toArray,D⟩:=by cases d<;>simp [Act.put,A0]
theorem LX {S:Ac} {M:List Chunk} {i:Nat} {o:Oper} {v:Value} {l:List Value} {D:List Deferred} {w:World} {K:Act→World→Prop} (hi:lo.toArray[i]? = some o)
  (hw:Region.wanted o (yielded lo.toArray l.toArray)=true) (hst:St S M w) (hy:Oper.quietUpon P (St S M) w v ((execOp (Ai l) o).run P w)) (h:∀ w',St S M w'→K ⟨(A0 l o.dst v).toArray,D⟩ w') :
  wpOp P lo.toArray (NoPanic Q) i K ⟨l.toArray,D⟩ w:=by
 unfold wpOp;simp only [hi,hw,if_true];refine .inl ?_;unfold Oper.wp;rw [CY];generalize (execOp (Ai l) o).run P w=r at hy ⊢
 cases r with
 | ok n w' =>
  cases n<;>simp only [Oper.quietUpon] at hy<;>simp only [Oper.upon]
  case value u =>
   obtain ⟨e1,e2⟩:=hy;rw [e1,e2,EA];exact h _ hst
  case skip =>
   obtain ⟨e1,e2⟩:=hy;rw [e1,← e2,EA];exact h _ hst
  case enter f args =>
   obtain ⟨e1,e2⟩:=hy;rw [e1];refine Calls.mono e2 fun e w'' he=>?_
   obtain ⟨rfl,hC⟩:=he;show K _ w'';rw [EA];exact h _ hC
 | halt x w'=>simp only [Oper.quietUpon] at hy
theorem bL {i:Nat} {oi:Oper} {v:Value} {D:List Deferred} (hi:lo[i]? = some oi) (hsel:Region.noSelect lo.toArray=true) (hns:DH oi=false) :
  ∀ (f:Nat) (S:Ac) (M:List Chunk) (bs:List Bool) (l:List Value),
   (∀ j oj,lo[j]? = some oj→j≠i→bs.toArray.getD j true=false→(∀ e∈oj.after,Region.binds .any e=true→e.on≠i)→oi.apart lo.toArray oj=true) →
   (∀ j oj,lo[j]? = some oj→bs.toArray.getD j true=false→DH oj=true→∃ g,KF lo g j i=true)→P7 lo bs →
   i∈Region.ready .any lo.toArray bs.toArray→(Region.wanted oi (yielded lo.toArray l.toArray)=true∧YX P S M l oi v∨Region.wanted oi (yielded lo.toArray l.toArray)=false∧v=undef) →
   Bt P lo Q f S M (bs.set i true) (A0 l oi.dst v) D→Bt P lo Q (f+1) S M bs l D:=by
 have hi':lo.toArray[i]? = some oi:=by simpa using hi
 have first:∀ {f:Nat} {S:Ac} {M:List Chunk} {bs:List Bool} {l:List Value} {w:World},(Region.wanted oi (yielded lo.toArray l.toArray)=true∧YX P S M l oi v∨Region.wanted oi (yielded lo.toArray l.toArray)=false∧v=undef)→St S M w →
   Bt P lo Q f S M (bs.set i true) (A0 l oi.dst v) D→wpOp P lo.toArray (NoPanic Q) i (fun a' w'=>∃ S' M' l',((∃ o,lo[i]? = some o∧DH o=true)∨(S.Le S'∧Suf M M'))∧a'=⟨l'.toArray,D⟩∧St S' M' w'∧Bt P lo Q f S' M' (bs.set i true) l' D) ⟨l.toArray,D⟩ w:=by
  intro f S M bs l w hy hst H;rcases hy with ⟨hw,hy⟩|⟨hw,rfl⟩
  ·exact LX hi' hw hst (hy S M w (Ac.Le.refl S) (Suf.refl M) hst) fun w' hw'=>⟨S,M,_,.inr ⟨Ac.Le.refl S,Suf.refl M⟩,rfl,hw',H⟩
  ·unfold wpOp;simp only [hi',hw,Bool.false_eq_true,if_false];exact ⟨S,M,_,.inr ⟨Ac.Le.refl S,Suf.refl M⟩,EA l D oi.dst undef,hst,H⟩
 intro f
 induction f with
 | zero =>
  intro S M bs l hfree hsw hcl hr hy H;refine ⟨fun e=>(by rw [e] at hr;cases hr),fun j hj w hst=>?_⟩;by_cases hji:j=i
  ·subst hji;exact first hy hst H
  ·have:=ready_mono hj hji;rw [Ef,H.1] at this;cases this
 | succ f ih =>
  intro S M bs l hfree hsw hcl hr hy H;refine ⟨fun e=>(by rw [e] at hr;cases hr),fun j hj w hst=>?_⟩;by_cases hji:j=i
  ·subst hji;exact first hy hst H
  ·have hj2:j∈Region.ready .any lo.toArray (bs.set i true).toArray:=by rw [← Ef];exact ready_mono hj hji
   have h1:=H.2 j hj2 w hst;obtain ⟨hjun,oj,hoj,hall⟩:=mem_ready.1 hj
   have hnot:∀ e∈oj.after,Region.binds .any e=true→e.on≠i:=fun e he hb heq=>by
    have h1:=hall e he hb;have h0:=(mem_ready.1 hr).1;rw [heq,getD_both h0] at h1;cases h1
   have hoj':lo[j]? = some oj:=by simpa using hoj
   have hnst:DH oj=false:=by
    cases e:DH oj with
    | false=>rfl
    | true =>
     obtain ⟨g,hg⟩:=hsw j oj hoj' hjun e;have h1:=JW hcl g j i oj hoj' hall hg;have h0:=(mem_ready.1 hr).1;rw [getD_both h0] at h1;cases h1
   rw [← EA] at h1;have h2:=ND (i:=i) hoj (hfree j oj hoj' hji hjun hnot) (fun cs b=>Region.noSelect_spec hsel i oi cs b hi') (fun cs b=>Region.noSelect_spec hsel j oj cs b hoj) h1;refine wpOp_mono (fun a' w' h3=>?_) h2;obtain ⟨⟨hc1,hc2⟩,S',M',l'',hex,hl,hst',hA⟩:=h3
   have hex':S.Le S'∧Suf M M':=by
    rcases hex with ⟨o,ho,hs⟩|hex
    ·rw [hoj'] at ho;cases ho;rw [hnst] at hs;cases hs
    ·exact hex
   obtain ⟨t,d⟩:=a'
   have hd:d=D:=by
    have:=congrArg Act.defers hl
    cases ho:oi.dst<;>simpa [Act.put,ho] using this
   subst hd;obtain ⟨l',rfl⟩:∃ l':List Value,t=l'.toArray:=⟨t.toList,by simp⟩
   rw [EA] at hl
   obtain rfl:A0 l' oi.dst v=l'':=by
    have:=congrArg (fun a=>a.tmps.toList) hl
    simpa using this
   refine ⟨S',M',l',.inr hex',rfl,hst',ih S' M' (bs.set j true) l' ?_ ?_ ?_ ?_ ?_ ?_⟩
   ·intro k ok hk hki hun hno;refine hfree k ok hk hki ?_ hno;rw [← Ef] at hun;by_cases hjk:j=k
    ·subst hjk;exact hjun
    ·rwa [getD_set_ne true hjk] at hun
   ·intro k ok hk hun hs;refine hsw k ok hk ?_ hs;rw [← Ef] at hun;by_cases hjk:j=k
    ·subst hjk;exact hjun
    ·rwa [getD_set_ne true hjk] at hun
   ·intro k ok hk hl e he hb;rw [← Ef] at hl ⊢;by_cases hjk:j=k
    ·subst hjk;obtain rfl:oj=ok:=by rw [hoj'] at hk;cases hk;rfl
     exact getD_set_true (hall e he hb)
    ·rw [getD_set_ne false hjk] at hl;exact getD_set_true (hcl k ok hk hl e he hb)
   ·rw [← Ef];exact ready_mono hr (Ne.symm hji)
   ·rw [CY,CY] at hc1;rcases hy with ⟨hw,hy⟩|⟨hw,hv⟩
    ·refine .inl ⟨hc2.trans hw,?_⟩;intro S2 M2 w2 hS2 hM2 hst2;rw [hc1];exact hy.ext hex'.1 hex'.2 S2 M2 w2 hS2 hM2 hst2
    ·exact .inr ⟨hc2.trans hw,hv⟩
   ·have e:=Array.setIfInBounds_comm (xs:=bs.toArray) (i:=i) (j:=j) true true (Ne.symm hji)
    have e':(bs.set i true).set j true=(bs.set j true).set i true:=by
     have:=congrArg Array.toList e
     simpa using this
    rw [← e'];exact hA
variable {S:Ac} {M:List Chunk} {f:Nat} {bs:List Bool} {l:List Value} {D:List Deferred} {o:Oper} {v:Value}
theorem G2 {k:Nat} (ho:lo[k]? = some o) (hok:EI lo bs k=true) (hns:DH o=false) (hy:Region.wanted o (yielded lo.toArray l.toArray)=true∧YX P S M l o v∨Region.wanted o (yielded lo.toArray l.toArray)=false∧v=undef)
  (h:Bt P lo Q f S M (bs.set k true) (A0 l o.dst v) D):Bt P lo Q (f+1) S M bs l D:=by
 simp only [EI,Bool.and_eq_true] at hok;obtain ⟨⟨⟨⟨h1,h2⟩,h3⟩,h4⟩,h5⟩:=hok;have ho':lo.toArray[k]? = some o:=by simpa using ho
 refine bL ho h1 hns f S M bs l (fun j oj hj=>Region.free_spec ho' h2 j oj (by simpa using hj)) (fun j oj hj hun hs=>?_) (PO h5) (by simpa using h3) hy h;have hlt:j < lo.length:=(List.getElem?_eq_some_iff.1 hj).1;have:=List.all_eq_true.1 h4 j (List.mem_range.2 hlt);have hun':bs.getD j true=false:=by simpa using hun
 rw [hun',hj] at this;simp only [Bool.false_or,hs,Bool.not_true] at this;exact ⟨_,this⟩
theorem Qt.suf {op:Op} {S':Ac} {M':List Chunk} (h:Qt P l op S M v) (hS:S.Le S') (hM:Suf M M'):Qt P l op S' M' v:=fun d ty pos af w hw=>h d ty pos af w (hw.suf hS hM)
theorem YX.qt (hq:Qt P l o.op S M v) (hg:∀ w,(execOp (Ai l) o).run P w=(execOp (Ai l) ⟨o.dst,o.op,o.type,o.pos,o.after,none⟩).run P w:=by intro;rfl):YX P S M l o v:=fun S' M' w hS hM hst=>by
 rw [hg,hq.suf hS hM o.dst o.type o.pos o.after w hst];exact ⟨rfl,rfl⟩
theorem RY (k:Nat) (ho:lo[k]? = some o) (hok:EI lo bs k=true) (hns:DH o=false) (hw:Region.wanted o (yielded lo.toArray l.toArray)=true) (hq:Qt P l o.op S M v)
  (h:Bt P lo Q f S M (bs.set k true) (A0 l o.dst v) D):Bt P lo Q (f+1) S M bs l D:=G2 ho hok hns (.inl ⟨hw,YX.qt hq⟩) h
theorem Wl (h:∀ w,St S M w→Bt P lo Q (f+1) S M bs l D):Bt P lo Q (f+1) S M bs l D :=
 ⟨fun e w hst=>(h w hst).1 e w hst,fun j hj w hst=>(h w hst).2 j hj w hst⟩
theorem Bz (k:Nat) {F:Value→Prop} (ho:lo[k]? = some o) (hok:EI lo bs k=true) (hns:DH o=false) (hw:Region.wanted o (yielded lo.toArray l.toArray)=true) (hq:∀ w,St S M w→∃ v,F v∧Qt P l o.op S M v)
  (h:∀ v,F v→Bt P lo Q f S M (bs.set k true) (A0 l o.dst v) D):Bt P lo Q (f+1) S M bs l D:=Wl fun w hst=>let ⟨v,hv,q⟩:=hq w hst;RY k ho hok hns hw q (h v hv)
theorem iV (k:Nat) (ho:lo[k]? = some o) (hok:EI lo bs k=true) (hns:DH o=false) (hw:Region.wanted o (yielded lo.toArray l.toArray)=false)
  (h:Bt P lo Q f S M (bs.set k true) (A0 l o.dst undef) D):Bt P lo Q (f+1) S M bs l D:=G2 ho hok hns (.inr ⟨hw,rfl⟩) h
theorem Ba (k:Nat) {fn:FuncId} {xs:List Operand} {ats:Array TypeId} {args:List Value} {d:Option Tmp} {ty:TypeId} {pos:String} {af:Array Edge} {g:Option (Nat×Bool)}
  (ho:lo[k]? = some ⟨d,.call { callee:=.value (.func fn),args:=xs.toArray,argTypes:=ats },ty,pos,af,g⟩) (hok:EI lo bs k=true) (hw:Region.wanted ⟨d,.call { callee:=.value (.func fn),args:=xs.toArray,argTypes:=ats },ty,pos,af,g⟩ (yielded lo.toArray l.toArray)=true)
  (c:∀ S' M' w,S.Le S'→Suf M M'→St S' M' w→Ad P fn args w fun v' w'=>v'=v∧St S' M' w') (hb:Body P fn) (ha:xs.map (Ai l)=args)
  (h:Bt P lo Q f S M (bs.set k true) (A0 l d v) D):Bt P lo Q (f+1) S M bs l D:=by
 refine G2 ho hok rfl (.inl ⟨hw,fun S' M' w hS hM hst=>?_⟩) h;subst ha
 have hr:(execOp (Ai l) ⟨d,.call { callee:=.value (.func fn),args:=xs.toArray,argTypes:=ats },ty,pos,af,g⟩).run P w=.ok (.enter fn (xs.map (Ai l)).toArray) w:=by
  have:=hb.enter (w:=w) (xs.map (Ai l)).toArray;simp only [execOp,resolve,Deferred.ofValue,Ai,Sem.run_bind,Sem.run_pure,Result.andThen_ok,invoke]
  simpa using this
 rw [hr];exact ⟨rfl,Calls.mono (c S' M' w hS hM hst) fun e w' ⟨v',he,hv,hs⟩=>⟨by rw [he,hv],hs⟩⟩
theorem FF (k:Nat) {fn:FuncId} {x:Operand} {xs:List Operand} {ats:Array TypeId} {args args':List Value} {fi ca:List Value} {d:Option Tmp} {ty:TypeId} {pos:String} {af:Array Edge} {g:Option (Nat×Bool)}
  (ho:lo[k]? = some ⟨d,.call { callee:=.value x,args:=xs.toArray,argTypes:=ats },ty,pos,af,g⟩) (hok:EI lo bs k=true) (hw:Region.wanted ⟨d,.call { callee:=.value x,args:=xs.toArray,argTypes:=ats },ty,pos,af,g⟩ (yielded lo.toArray l.toArray)=true)
  (c:∀ S' M' w,S.Le S'→Suf M M'→St S' M' w→Ad P fn args' w fun v' w'=>v'=v∧St S' M' w') (hx:Ai l x=.func (.func fn) fi.toArray ca.toArray) (hb:Body P fn) (ha:xs.map (Ai l)=args) (hargs:fi++args++ca=args')
  (h:Bt P lo Q f S M (bs.set k true) (A0 l d v) D):Bt P lo Q (f+1) S M bs l D:=by
 refine G2 ho hok rfl (.inl ⟨hw,fun S' M' w hS hM hst=>?_⟩) h;subst ha;subst hargs
 have hr:(execOp (Ai l) ⟨d,.call { callee:=.value x,args:=xs.toArray,argTypes:=ats },ty,pos,af,g⟩).run P w=.ok (.enter fn (fi++xs.map (Ai l)++ca).toArray) w:=by
  have:=hb.enter (w:=w) (fi++xs.map (Ai l)++ca).toArray;simp only [execOp,resolve,hx,Deferred.ofValue,Sem.run_bind,Sem.run_pure,Result.andThen_ok,invoke]
  simpa using this
 rw [hr];exact ⟨rfl,Calls.mono (c S' M' w hS hM hst) fun e w' ⟨v',he,hv,hs⟩=>⟨by rw [he,hv],hs⟩⟩
def YZ (P:Program) (lo:List Oper) (Q:Exit→Act→World→Prop) (S:Ac) (M:List Chunk) (f:Nat) (bs:List Bool) (D:List Deferred) (K:Act→World→Prop):Prop :=
 ∀ S' M' l' w,S.Le S'→Suf M M'→St S' M' w→Bt P lo Q f S' M' bs l' D→K ⟨l'.toArray,D⟩ w
def Y2 (P:Program) (lo:List Oper) (Q:Exit→Act→World→Prop) (f:Nat) (bs:List Bool) (D:List Deferred) (K:Act→World→Prop):Prop :=
 ∀ S' M' l' w,St S' M' w→Bt P lo Q f S' M' bs l' D→K ⟨l'.toArray,D⟩ w
def MP (P:Program) (lo:List Oper) (Q:Exit→Act→World→Prop) (S:Ac) (M:List Chunk) (f:Nat) (bs:List Bool) (l:List Value) (D:List Deferred) (k:Nat) (o:Oper):Prop :=
 ∀ w,St S M w→∀ K,(if DH o then Y2 P lo Q f (bs.set k true) D K else YZ P lo Q S M f (bs.set k true) D K)→wpList P lo.toArray (Exit.then K (NoPanic Q)) [o] ⟨l.toArray,D⟩ w
theorem TZ {k:Nat} (ho:lo[k]? = some o) (h:MP P lo Q S M f bs l D k o) (w:World) (hst:St S M w) :
  wpOp P lo.toArray (NoPanic Q) k (fun a' w'=>∃ S' M' l',((∃ o,lo[k]? = some o∧DH o=true)∨(S.Le S'∧Suf M M'))∧a'=⟨l'.toArray,D⟩∧St S' M' w'∧Bt P lo Q f S' M' (bs.set k true) l' D) ⟨l.toArray,D⟩ w:=by
 refine JU (by simpa using ho) (h w hst _ ?_)
 cases e:DH o with
 | true=>exact fun S' M' l' w' h1 h2=>⟨S',M',l',.inl ⟨o,ho,e⟩,rfl,h1,h2⟩
 | false=>exact fun S' M' l' w' h0 h1 h2 h3=>⟨S',M',l',.inr ⟨h0,h1⟩,rfl,h2,h3⟩
theorem YG (rs:List Nat) (hr:Region.ready .any lo.toArray bs.toArray=rs) (hne:rs≠[]) (h:∀ k∈rs,∃ o,lo[k]? = some o∧MP P lo Q S M f bs l D k o):Bt P lo Q (f+1) S M bs l D :=
 ⟨fun e=>absurd (hr▸e) hne,fun j hj w hst=>let ⟨_,ho,h1⟩:=h j (hr▸hj);TZ ho h1 w hst⟩
theorem AR (k:Nat) (ho:lo[k]? = some o) (hr:Region.ready .any lo.toArray bs.toArray=[k]) (h:MP P lo Q S M f bs l D k o):Bt P lo Q (f+1) S M bs l D :=
 YG [k] hr (by simp) fun i hi=>by obtain rfl:=List.mem_singleton.1 hi;exact ⟨o,ho,h⟩
theorem Om (j k:Nat) {o':Oper} (ho:lo[j]? = some o) (ho':lo[k]? = some o') (hr:Region.ready .any lo.toArray bs.toArray=[j,k]) (h:MP P lo Q S M f bs l D j o) (h':MP P lo Q S M f bs l D k o'):Bt P lo Q (f+1) S M bs l D :=
 YG [j,k] hr (by simp) fun i hi=>by
  rcases List.mem_cons.1 hi with rfl|hi
  ·exact ⟨o,ho,h⟩
  ·obtain rfl:=List.mem_singleton.1 hi;exact ⟨o',ho',h'⟩
theorem AK (hr:Region.ready .any lo.toArray bs.toArray=[]) (h:∀ w,St S M w→Q .normal ⟨l.toArray,D⟩ w):Bt P lo Q f S M bs l D:=by
 cases f with
 | zero=>exact ⟨hr,h⟩
 | succ f=>exact ⟨fun _=>h,by rw [hr];simp⟩
theorem Bn {ops:Array Oper} {K:Act→World→Prop} {Q':Exit→Act→World→Prop} {S':Ac} {M':List Chunk} {w:World} (hK:YZ P lo Q S M f bs D K) (hst:St S' M' w) (hS:S.Le S') (hM:Suf M M')
  (h:Bt P lo Q f S' M' bs l D):wpList P ops (Exit.then K Q') [] ⟨l.toArray,D⟩ w:=hK S' M' l w hS hM hst h
theorem Bb {ops:Array Oper} {K:Act→World→Prop} {Q':Exit→Act→World→Prop} {S':Ac} {M':List Chunk} {w:World} (hK:Y2 P lo Q f bs D K) (hst:St S' M' w)
  (h:Bt P lo Q f S' M' bs l D):wpList P ops (Exit.then K Q') [] ⟨l.toArray,D⟩ w:=hK S' M' l w hst h
end
theorem Fb {P:Program} {S:Ac} {M:List Chunk} {l:List Value} {α:Type} [Rep α] {T E:TypeId} {n:Nat} {x:Operand} {lo hi:Option Operand} {agg:Bool} {zero:List Value} {bb:Nat} {p:Value} {y:Ge α n} {a b:Nat} (hx:Ai l x=p) (hp:Pt S p y) (hT:ArrT P T n E) (hE:Ty P E agg (Rep.z α) zero bb)
  (hl:Bd (lo.map (Ai l)) 0 a) (hh:Bd (hi.map (Ai l)) n b) (h1:a≤b) (h2:b≤n) (hn:n≤maxLen):∃ v,RSl S v ((y.l.drop a).take (b - a))∧Qt P l (.slice T x lo hi none) S M v:=by
 obtain ⟨b0,o,c,B,fz,rfl,hb,hR⟩:=hp;have hyl:y.l.length=n:=hR.1;have hRL:RL S ((c.toList.drop o).take (y.l.length * Rep.z α)) y.l:=by rw [hyl];exact hR.2
 have hv:RSl S (.slice (some ⟨b0,o,none⟩) n n) y.l:=.inr ⟨b0,o,n,c,B,fz,by rw [hyl],hb,by omega,by omega,hRL⟩;have hs:=hv.sub rfl a b n h1 (by omega) (by omega) (Nat.le_refl _);refine ⟨_,hs,fun dst ty pos af w hst=>?_⟩;have e1:(Instr.sureAddr (.pointer (some ⟨b0,o,none⟩))).run P w=.ok ⟨b0,o,none⟩ w:=rfl;have e2:=Ma (P:=P) (w:=w) (lo:=lo.map (Ai l)) (hi:=hi.map (Ai l)) (mx:=none) (len:=n) (cap:=n) (a:=a) (b:=b) (m:=n) hl hh (.inl ⟨rfl,rfl⟩) h1 h2 (Nat.le_refl _) (by simp) false;have e3:(if n=a then some (⟨b0,o,none⟩:Addr) else Option.map (fun x:Addr=>x.add (a * Rep.z α)) (some ⟨b0,o,none⟩))=some (if n=a then ⟨b0,o,none⟩ else (⟨b0,o,none⟩:Addr).add (a * Rep.z α)):=by split<;>rfl
 rw [e3];simp only [execOp,hx,Instr.sliceAt,Sem.run_bind,run_underlying hT.u,Result.andThen_ok,e1,e2,hE.run_sizeOf,Sem.run_pure,Option.map_none]
theorem fq {P:Program} {lo:List Oper} {Q:Exit→Act→World→Prop} {S:Ac} {M:List Chunk} {f:Nat} {bs:List Bool} {l:List Value} {D:List Deferred} {o:Oper} (k:Nat) {F:Value→Prop} (ho:lo[k]? = some o) (hok:EI lo bs k=true) (hns:DH o=false) (hw:Region.wanted o (yielded lo.toArray l.toArray)=true)
  (hq:∃ v,F v∧Qt P l o.op S M v) (h:∀ v,F v→Bt P lo Q f S M (bs.set k true) (A0 l o.dst v) D):Bt P lo Q (f+1) S M bs l D:=let ⟨v,hv,q⟩:=hq;RY k ho hok hns hw q (h v hv)
class LenIs (bs:List UInt8) (n:Nat):Prop where
 h:bs.length=n
section
variable {P:Program} {S:Ac} {M:List Chunk} {l:List Value} {ops:Array Oper} {rest:List Oper} {Q:Exit→Act→World→Prop} {D:List Deferred} {w:World} {ty:TypeId} {pos:String} {af:Array Edge}
theorem GD {v:Value} (h:v.oneCell'=true):v.cells.size=1:=by
 have:=congrArg List.length (CD h)
 simpa using this
theorem Jt {T B:TypeId} {x:Operand} {zero:List Value} {z bb b k:Nat} {bs:List UInt8} (hx:Ai l x=.pointer (some ⟨b,0,none⟩)) (hk:M[k]? = some (.box b (u8s bs) B)) (hT:Ty P T true z zero bb) (hl:LenIs bs z):Qt P l (.load T x) S M (.agg (u8s bs).toArray) :=
 Bl hx hk hT (by rw [A8,hl.h])
theorem FX {T B:TypeId} {x y:Operand} {zero c:List Value} {z bb b k:Nat} {bs:List UInt8} (hst:St S M w) (hx:Ai l x=.pointer (some ⟨b,0,none⟩)) (hk:M[k]? = some (.box b c B)) (hT:Ty P T true z zero bb) (hy:Ai l y=.agg (u8s bs).toArray) (hl:LenIs bs z) (hc:c.length=z)
  (h:∀ w',St S (M.set k (.box b (u8s bs) B)) w'→wpList P ops Q rest ⟨l.toArray,D⟩ w'):wpList P ops Q (⟨none,.store T x y,ty,pos,af,none⟩::rest) ⟨l.toArray,D⟩ w:=by
 have hb:=hl.h;refine AB hst hx k hk hT hy (cs:=u8s bs) rfl (by rw [A8,hb]) (List.all_eq_true.2 (EO _)) (by omega) fun w' h'=>h w' ?_
 rw [List.take_zero,List.nil_append,List.drop_of_length_le (by omega),List.append_nil] at h';exact h'
theorem H6 {c:List Value} {z:Nat} (h:c.length=z:=by first|(with_unfolding_all exact rfl)|(rw [A8];exact LenIs.h)):c.length=z:=h
theorem Jr {fn:Func} {R:Ending→World→Prop} {a:Tmp} {T:TypeId} {z:Nat} {zero:List Value} {bb:Nat} {b:Nat} {bs:List UInt8} {B:TypeId} {k:Nat} (hr:fn.results = #[.cell a T]) (hst:St S M w) (hx:AX l a=.pointer (some ⟨b,0,none⟩)) (hk:M[k]? = some (.box b (u8s bs) B))
  (hT:Ty P T true z zero bb) (hl:LenIs bs z) (hR:R (.returned (.agg (u8s bs).toArray)) w):bodyPost P fn R .ret ⟨l.toArray,[]⟩ w :=
 Ca hr hst hx k hk hT (cs:=u8s bs) (by rw [List.drop_zero,List.take_of_length_le (by rw [A8,hl.h];exact Nat.le_refl _)]) (by rw [A8,hl.h]) hR
end
variable {P:Program} {S:Ac} {M:List Chunk} {l:List Value}
theorem OZ (off:Nat):∀ (vs:List Value) (j:Nat) (c:Array Value),off+j+vs.length≤c.size→(vs.zipIdx j).foldl (fun cs p=>cs.setIfInBounds (off+p.2) p.1) c=(c.toList.take (off+j)++vs++c.toList.drop (off+j+vs.length)).toArray
 | [],j,c,_=>by simp
 | u::us,j,c,hc=>by
  simp only [List.length_cons] at hc;rw [List.zipIdx_cons,List.foldl_cons,OZ off us (j+1) _ (by simp;omega)];have hlt:off+j < c.toList.length:=by simp;omega
  congr 1
  simp only [Array.toList_setIfInBounds];rw [List.set_eq_take_append_cons_drop,if_pos hlt];have hl2:(c.toList.take (off+j)).length=off+j:=by simp;omega
  rw [show off+(j+1)=off+j+1 from by omega,QI hl2,Rx hl2,List.drop_drop];simp only [List.append_assoc,List.singleton_append];rw [show off+j+1+us.length=off+j+(u::us).length from by simp;omega]
theorem Vo {place:Nat→Option (Nat×Nat)} {cells:List Value} {i off size:Nat} {v:Value} {r:List (Nat×Value)} (hp:place i=some (off,size)) (hs:v.cells.toList.length=size) (hb:off+size≤cells.length) :
  Instr.fill place cells.toArray ((i,v)::r)=Instr.fill place (cells.take off++v.cells.toList++cells.drop (off+size)).toArray r:=by
 have hs':v.cells.size=size:=by simpa using hs
 have hbig:¬ (off+size > cells.length):=by omega
 rw [Instr.fill,hp];simp only [hs',ne_eq,not_true_eq_false,decide_false,Bool.false_or,List.size_toArray];rw [if_neg (by simpa using hbig)];have:=OZ off v.cells.toList 0 cells.toArray (by simp [hs'];omega)
 have hz:v.cells.zipIdx.foldl (fun cs x=>match x with|(c,j)=>cs.setIfInBounds (off+j) c) cells.toArray=(cells.take off++v.cells.toList++cells.drop (off+size)).toArray:=by
  rw [← Array.foldl_toList]
  simpa [hs'] using this
 rw [hz]
inductive Puts (S:Ac) (places:List (Nat×Nat)) {α:Type} [Rep α]:List (Nat×Value)→α→α→Prop
 | nil {x:α}:Puts S places [] x x
 | cons {k off:Nat} {β:Type} [Rep β] {get:α→β} {put:α→β→α} [HasF α k β off get put] {v:Value} {y:β} {x x':α} {r:List (Nat×Value)} (hv:Rep.R S v.cells.toList y) (hp:places[k]? = some (off,Rep.z β)) (h:Puts S places r (put x y) x'):Puts S places ((k,v)::r) x x'
theorem Vp {α:Type} [Rep α] {places:List (Nat×Nat)} {parts:List (Nat×Value)} {x x':α} (h:Puts S places parts x x'):∀ cells,Rep.R S cells x→∃ cs,Instr.fill (fun i=>places.toArray[i]?) cells.toArray parts=some cs.toArray∧Rep.R S cs x':=by
 induction h with
 | nil=>exact fun cells hc=>⟨cells,rfl,hc⟩
 | cons hv hp h ih =>
  rename_i k off β _ get put i v y x x' r;intro cells hc;have hb:=i.le;have hl:=Rep.len hc;rw [Vo (off:=off) (size:=Rep.z β) (by simpa using hp) (Rep.len hv) (by omega)];exact ih _ (i.wr hc hv)
section
variable {α:Type} [Rep α] {T:TypeId} {places:List (Nat×Nat)} {z:Nat} {zero:List Value} {bb:Nat} {x0 x':α} {ps:List (Nat×Operand)}
theorem FK {cells:α→List Value} (hF:FlatC α cells) (hT:StructT P T places) (hZ:Ty P T true z zero bb) (h0:Rep.R S zero x0) (hp:Puts S places (ps.map fun q=>(q.1,Ai l q.2)) x0 x'):Qt P l (.build T ps.toArray) S M (.agg (cells x').toArray):=by
 obtain ⟨cs,hf,hR⟩:=Vp hp zero h0;rw [← hF.flat hR];exact Cz hT hZ hf
end
section
variable {α β:Type} [Rep α] [Rep β]
instance LK {f:α→List Value} {g:β→List Value} [hf:FlatC α f] [hg:FlatC β g]:FlatC (α×β) (fun p=>f p.1++g p.2):=⟨fun {S cs x} h=>by
 rw [← hf.flat h.2.1,← hg.flat h.2.2,List.take_append_drop]⟩
instance jK:FlatC Unit (fun _=>[]):=⟨fun h=>h⟩
instance kW:FlatC Int (fun n=>[.int .i64 n]):=⟨fun h=>h.1⟩
variable {ops:Array Oper} {rest:List Oper} {Q:Exit→Act→World→Prop} {D:List Deferred} {w:World} {ty:TypeId} {pos:String} {af:Array Edge} {d:Tmp}
theorem FC {T B:TypeId} {x:Operand} {zero c:List Value} {bb b k:Nat} {x0:α} (hx:Ai l x=.pointer (some ⟨b,0,none⟩)) (hk:M[k]? = some (.box b c B)) (hR:Rep.R S c x0) (hT:Ty P T true (Rep.z α) zero bb):Qt P l (.load T x) S M (.agg c.toArray) :=
 Bl hx hk hT (Rep.len hR)
theorem CN {T B:TypeId} {x y:Operand} {zero c cs:List Value} {bb b k:Nat} {x0:α} (hst:St S M w) (hx:Ai l x=.pointer (some ⟨b,0,none⟩)) (hk:M[k]? = some (.box b c B)) (hT:Ty P T true (Rep.z α) zero bb) (hy:Ai l y=.agg cs.toArray) (hR:Rep.R S cs x0) (hc:c.length=Rep.z α)
  (h:∀ w',St S (M.set k (.box b cs B)) w'→wpList P ops Q rest ⟨l.toArray,D⟩ w') :
  wpList P ops Q (⟨none,.store T x y,ty,pos,af,none⟩::rest) ⟨l.toArray,D⟩ w:=by
 have hl:=Rep.len hR;refine AB hst hx k hk hT hy (cs:=cs) rfl hl (List.all_eq_true.2 (Rep.one hR)) (by omega) fun w' h'=>h w' ?_
 rw [List.take_zero,List.nil_append,List.drop_of_length_le (by omega),List.append_nil] at h';exact h'
theorem i6 {a:Tmp} {T:TypeId} {zero c:List Value} {bb:Nat} {b:Nat} {B:TypeId} {k:Nat} {x0:α} (hst:St S M w) (hx:AX l a=.pointer (some ⟨b,0,none⟩)) (hk:M[k]? = some (.box b c B))
  (hT:Ty P T true (Rep.z α) zero bb) (hR:Rep.R S c x0):Gr P l w (.cell a T) (.agg c.toArray) :=
 AT (cs:=c) hst hx k hk hT (by rw [List.drop_zero,List.take_of_length_le (by rw [Rep.len hR];exact Nat.le_refl _)]) (Rep.len hR)
theorem Oq {fn:Func} {R:Ending→World→Prop} {a:Tmp} {T:TypeId} {zero c:List Value} {bb:Nat} {b:Nat} {B:TypeId} {k:Nat} {x0:α} (hr:fn.results = #[.cell a T]) (hst:St S M w) (hx:AX l a=.pointer (some ⟨b,0,none⟩)) (hk:M[k]? = some (.box b c B))
  (hT:Ty P T true (Rep.z α) zero bb) (hx0:Rep.R S c x0) (hR:R (.returned (.agg c.toArray)) w):bodyPost P fn R .ret ⟨l.toArray,[]⟩ w :=
 Ca hr hst hx k hk hT (cs:=c) (by rw [List.drop_zero,List.take_of_length_le (by rw [Rep.len hx0];exact Nat.le_refl _)]) (Rep.len hx0) hR
end
inductive Sls (S:Ac):List Value→List (List UInt8)→Prop
 | nil:Sls S [] []
 | cons {v:Value} {x:List UInt8} {vs:List Value} {xs:List (List UInt8)} (h:RSl S v x) (hs:Sls S vs xs):Sls S (v::vs) (x::xs)
theorem Sls.rl {vs:List Value} {xs:List (List UInt8)} (h:Sls S vs xs):RL S vs xs∧vs.length=xs.length∧(∀ v∈vs,v.oneCell'=true):=by
 induction h with
 | nil=>exact ⟨RL.nil,rfl,by simp⟩
 | @cons v x vs xs hv hs ih =>
  refine ⟨⟨by have h1:=ih.2.1;have hz:Rep.z (List UInt8)=1:=rfl;rw [hz];simp [h1],fun i y hy=>?_⟩,by simp [ih.2.1],fun u hu=>?_⟩
  ·have hz:Rep.z (List UInt8)=1:=rfl
   cases i with
   | zero =>
    cases hy;exact ⟨v,rfl,hv⟩
   | succ i =>
    have:=ih.1.2 i y (by simpa using hy);rw [hz,Nat.mul_one] at this ⊢;exact this
  ·rcases List.mem_cons.1 hu with rfl|hu
   ·exact hv.oneCell
   ·exact ih.2.2 u hu
section
variable {ops:Array Oper} {rest:List Oper} {Q:Exit→Act→World→Prop} {D:List Deferred} {w:World} {ty:TypeId} {pos:String} {af:Array Edge} {d:Tmp}
theorem DT {T E:TypeId} {n:Nat} {parts:Array (Nat×Operand)} {zero:List Value} {bb:Nat} {vs:List Value} {xs:List (List UInt8)} (hst:St S M w) (hs:Sls S vs xs) (hT:SlT P T E) (hE:Ty P E false 1 zero bb)
  (hp:parts.toList.map (fun p=>(p.1,Ai l p.2))=(vs.zipIdx.map fun p=>(p.2,p.1))) (hn:vs.length=n) (hb:n≤1000)
  (h:∀ S' u w',S.Le S'→RSl S' u xs→u.oneCell'=true→St S' M w'→wpList P ops Q rest ⟨(l.set d u).toArray,D⟩ w') :
  wpList P ops Q (⟨some d,.buildSlice T n parts,ty,pos,af,none⟩::rest) ⟨l.toArray,D⟩ w:=by
 obtain ⟨h1,h2,h3⟩:=hs.rl
 have hfl:(vs.map (·.cells.toList)).flatten=vs:=by
  clear hs h1 h2 hp hn
  induction vs with
  | nil=>rfl
  | cons v r ih=>rw [List.map_cons,List.flatten_cons,ih (fun u hu=>h3 u (.tail _ hu)),CD (h3 v (.head _))];rfl
 refine AA (vs:=vs) (cs:=vs) hst hT hE hp hn (fun v hv=>GD (h3 v hv)) hfl (by omega) (by omega) fun u w' hst'=>?_
 obtain ⟨S',a,b,c⟩:=St.freeze (α:=List UInt8) (T:=E) (xs:=xs) hst' h1 (by omega);exact h S' u w' a c c.oneCell b
end
section
variable {P:Program} {S:Ac} {M:List Chunk} {l:List Value} {α:Type} [Rep α]
theorem RL.at_len {c:List Value} {xs:List α} (h:RL S c xs) {j:Nat} (hl:j < xs.length):j * Rep.z α+Rep.z α≤c.length:=by
 rw [h.1];have:=Nat.mul_le_mul_right (Rep.z α) (show j+1≤xs.length by omega);rw [Nat.succ_mul] at this;exact this
theorem RL.at_some {c:List Value} {xs:List α} (h:RL S c xs) {j:Nat} {y:α} (hy:xs[j]? = some y):j * Rep.z α+Rep.z α≤c.length:=h.at_len (List.getElem?_eq_some_iff.1 hy).1
theorem BP {T F:TypeId} {x:Operand} {agg:Bool} {zero:List Value} {bb:Nat} {v p:Value} {j k n:Nat} {c:List Value} {xs:List α} {y:α} (hx:Ai l x=p) (hp:Jb v p (j * Rep.z α)) (hk:M[k]? = some (.sl v F (Rep.z α) n c)) (hR:RL S c xs)
  (hT:Ty P T agg (Rep.z α) zero bb) (hy:xs[j]? = some y):∃ u,(∃ cs,u=Dy agg cs∧Rep.R S cs y)∧Qt P l (.load T x) S M u :=
 ⟨_,⟨_,rfl,hR.2 j _ hy⟩,Gu hx hp hk hT rfl (hR.at_some hy)⟩
theorem Bh {w:World} {v:Value} {T:TypeId} {k z n:Nat} {c:List Value} (h:St S M w) (hk:M[k]? = some (.sl v T z n c)):v.oneCell'=true:=by
 rcases (h.get hk).2 with ⟨rfl,_⟩|⟨g,cap,cur,fz,rfl,_⟩<;>rfl
end
section
variable {P:Program} {S:Ac} {M:List Chunk} {l:List Value}
theorem Zf (a b:List UInt8):((⟨a.toArray⟩:ByteArray).toList == (⟨b.toArray⟩:ByteArray).toList)=decide (a=b):=by
 rw [ByteArray.toList_eq,ByteArray.toList_eq];by_cases h:a=b
 ·rw [decide_eq_true h,h];exact beq_self_eq_true _
 ·rw [decide_eq_false h];exact beq_eq_false_iff_ne.2 h
theorem Aw {T U:TypeId} {x y:Operand} {a b:List UInt8} {c:Bool} (hx:Ai l x=.string ⟨a.toArray⟩) (hy:Ai l y=.string ⟨b.toArray⟩) (hT:StrT P T) (e:decide (a=b)=c):Qt P l (.binOp .eql T x y U) S M (.bool c):=fun dst ty pos af w _=>by
 simp only [execOp,hx,hy,eqGuard_at_string,binOp_string_eql,Zf,e];rfl
end
variable {P:Program}
def YB (P:Program) (f:FuncId) (args:List Value) (w:World) (ch:List PanicEntry) (post:World→Prop):Prop :=
 Calls P f args.toArray w fun e w'=>e=.panicked ch∧post w'
section
variable {ops:Array Oper} {rest:List Oper} {Q:Exit→Act→World→Prop} {l:List Value} {D:List Deferred} {w:World} {ty:TypeId} {pos:String} {af:Array Edge}
theorem YB.mono {f:FuncId} {args:List Value} {ch:List PanicEntry} {post post':World→Prop} (h:YB P f args w ch post) (hp:∀ w',post w'→post' w'):YB P f args w ch post' :=
 Calls.mono h fun _ w' ⟨e,p⟩=>⟨e,hp w' p⟩
end
section
variable {P:Program} {lo:List Oper} {Q:Exit→Act→World→Prop} {K:Act→World→Prop} {S:Ac} {M:List Chunk} {l:List Value} {D:List Deferred} {w:World} {bs:List Bool} {f:Nat} {o:Oper} {v:Value}
def EN (Q:Exit→Act→World→Prop):Prop:=∀ c (a:Act) d v w,Q (.panic c) (a.put d v) w→Q (.panic c) a w
theorem put_defers (a:Act) (d:Option Tmp) (v:Value):(a.put d v).defers=a.defers:=by cases d<;>rfl
theorem Gz {fn:Func} {R:Ending→World→Prop}:EN (bodyPost P fn R):=fun c a d v w h=>⟨by rw [← put_defers a d v];exact h.1,h.2⟩
theorem Gy {K:Act→World→Prop} (h:EN Q):EN (Exit.then K Q):=fun c a d v w k=>h c a d v w k
theorem F0 {id:Nat} (h:EN Q):EN (Exit.inBlock id Q):=fun c a d v w k=>h c a d v w k
end
section
variable {P:Program} {lo:List Oper} {Q:Exit→Act→World→Prop} {K:Act→World→Prop} {S S0:Ac} {M:List Chunk} {l:List Value} {D:List Deferred} {w:World} {bs:List Bool} {f:Nat} {o:Oper} {v:Value}
theorem St.nilM:∀ {M:List Chunk},St S M w→St S [] w
 | [],h=>h
 | _::_,h=>St.nilM h.drop
theorem St.cls (hS:S0.Le S) (h:St S M w):St S0 [] w:=St.weaken hS h.nilM
theorem RL.set {α:Type} [Rep α] {c cs:List Value} {xs:List α} {y:α} {k:Nat} (h:RL S c xs) (hy:Rep.R S cs y) (hk:k < xs.length):RL S (c.take (k * Rep.z α)++cs++c.drop (k * Rep.z α+Rep.z α)) (xs.set k y):=by
 have e:xs.set k y=(xs.take k++[y])++xs.drop (k+1):=by
  rw [List.set_eq_take_append_cons_drop,if_pos hk];simp
 rw [e];have h1:=h.sub 0 k (by omega);rw [Nat.zero_mul,List.drop_zero,List.drop_zero] at h1;have h2:=h.sub (k+1) (xs.length - (k+1)) (by omega);have hl:=h.1;rw [List.take_of_length_le (l:=xs.drop (k+1)) (by rw [List.length_drop];exact Nat.le_refl _),List.take_of_length_le (l:=c.drop ((k+1) * Rep.z α)) (by rw [List.length_drop,hl,← Nat.sub_mul];exact Nat.le_refl _),Nat.succ_mul] at h2;exact (h1.append (RL.one_mk hy)).append h2
theorem Bk (_:St S M w):S.Le S:=Ac.Le.refl S
abbrev Dx (P:Program) (lo:List Oper) (Q:Exit→Act→World→Prop) (S0:Ac) (f:Nat) (bs:List Bool) (l:List Value) (D:List Deferred) (w:World):Prop :=
 wpAnyH P .any lo.toArray Q (fun w=>St S0 [] w) f bs.toArray ⟨l.toArray,D⟩ w
theorem AN {id:Nat} (hst:St S M w) (hm:P.follows .mixedOrders=true) (h:∀ w',St S M w'→Dx P lo Q S lo.length (List.replicate lo.length false) l D w'):(Code.region id lo.toArray true).wp P Q ⟨l.toArray,D⟩ w:=by
 refine wp_region_held (S:=fun w=>St S [] w) hm ?_;have:=h _ hst.drew
 simpa [Dx] using this
theorem M9 (k:Nat) (hQ:EN Q) (ho:lo[k]? = some o) (hs:Region.noSelect lo.toArray=true) (hf:Region.free .any lo.toArray bs.toArray k=true) (hr:(Region.ready .any lo.toArray bs.toArray).contains k=true)
  (hw:Region.wanted o (yielded lo.toArray l.toArray)=true) (hc:St S0 [] w) (hq:Qt P l o.op S0 [] v) (h:Dx P lo Q S0 f (bs.set k true) (A0 l o.dst v) D w):Dx P lo Q S0 (f+1) bs l D w:=by
 refine wpAnyH_take (i:=k) (by simpa using ho) hs hf hr (fun c a w h=>hQ c a _ _ w h) (.inl ⟨hw,fun w' hw'=>by rw [CY];exact hq o.dst o.type o.pos o.after w' hw'⟩) hc ?_;have e1:bs.toArray.setIfInBounds k true=(bs.set k true).toArray:=by simp
 have e2:(⟨l.toArray,D⟩:Act).put o.dst v=⟨(A0 l o.dst v).toArray,D⟩:=by cases o.dst<;>simp [Act.put,A0]
 rw [e1,e2];exact h
theorem Xi (k:Nat) {F:Value→Prop} (hQ:EN Q) (ho:lo[k]? = some o) (hs:Region.noSelect lo.toArray=true) (hf:Region.free .any lo.toArray bs.toArray k=true) (hr:(Region.ready .any lo.toArray bs.toArray).contains k=true)
  (hw:Region.wanted o (yielded lo.toArray l.toArray)=true) (hc:St S0 [] w) (hq:∃ v,F v∧Qt P l o.op S0 [] v) (h:∀ v,F v→Dx P lo Q S0 f (bs.set k true) (A0 l o.dst v) D w):Dx P lo Q S0 (f+1) bs l D w :=
 let ⟨v,hv,q⟩:=hq;M9 k hQ ho hs hf hr hw hc q (h v hv)
theorem UM (k:Nat) (hQ:EN Q) (ho:lo[k]? = some o) (hs:Region.noSelect lo.toArray=true) (hf:Region.free .any lo.toArray bs.toArray k=true) (hr:(Region.ready .any lo.toArray bs.toArray).contains k=true)
  (hw:Region.wanted o (yielded lo.toArray l.toArray)=false) (hc:St S0 [] w) (h:Dx P lo Q S0 f (bs.set k true) (A0 l o.dst undef) D w):Dx P lo Q S0 (f+1) bs l D w:=by
 refine wpAnyH_take (i:=k) (v:=undef) (by simpa using ho) hs hf hr (fun c a w h=>hQ c a _ _ w h) (.inr ⟨hw,rfl⟩) hc ?_;have e1:bs.toArray.setIfInBounds k true=(bs.set k true).toArray:=by simp
 have e2:(⟨l.toArray,D⟩:Act).put o.dst undef=⟨(A0 l o.dst undef).toArray,D⟩:=by cases o.dst<;>simp [Act.put,A0]
 rw [e1,e2];exact h
def GF (P:Program) (lo:List Oper) (Q:Exit→Act→World→Prop) (S0:Ac) (f:Nat) (bs:List Bool) (K:Act→World→Prop):Prop :=
 ∀ l D w,St S0 [] w→Dx P lo Q S0 f bs l D w→K ⟨l.toArray,D⟩ w
theorem Hl {k:Nat} (ho:lo[k]? = some o) (h:∀ K,GF P lo Q S0 f (bs.set k true) K→wpList P lo.toArray (Exit.then K Q) [o] ⟨l.toArray,D⟩ w) :
  wpOp P lo.toArray Q k (fun a' w'=>St S0 [] w'∧wpAnyH P .any lo.toArray Q (fun w=>St S0 [] w) f (bs.toArray.setIfInBounds k true) a' w') ⟨l.toArray,D⟩ w:=by
 refine JU (by simpa using ho) (h _ fun l D w hc hA=>⟨hc,?_⟩);have e1:bs.toArray.setIfInBounds k true=(bs.set k true).toArray:=by simp
 rw [e1];exact hA
theorem dq (k:Nat) (ho:lo[k]? = some o) (hr:Region.ready .any lo.toArray bs.toArray=[k])
  (h:∀ K,GF P lo Q S0 f (bs.set k true) K→wpList P lo.toArray (Exit.then K Q) [o] ⟨l.toArray,D⟩ w):Dx P lo Q S0 (f+1) bs l D w:=by
 refine wpAnyH_all hr (by simp) fun i hi=>?_
 obtain rfl:=List.mem_singleton.1 hi;exact Hl ho h
theorem BQ (j k:Nat) {o':Oper} (ho:lo[j]? = some o) (ho':lo[k]? = some o') (hr:Region.ready .any lo.toArray bs.toArray=[j,k])
  (h:∀ K,GF P lo Q S0 f (bs.set j true) K→wpList P lo.toArray (Exit.then K Q) [o] ⟨l.toArray,D⟩ w)
  (h':∀ K,GF P lo Q S0 f (bs.set k true) K→wpList P lo.toArray (Exit.then K Q) [o'] ⟨l.toArray,D⟩ w):Dx P lo Q S0 (f+1) bs l D w:=by
 refine wpAnyH_all hr (by simp) fun i hi=>?_
 rcases List.mem_cons.1 hi with rfl|hi
 ·exact Hl ho h
 ·obtain rfl:=List.mem_singleton.1 hi;exact Hl ho' h'
theorem O0 (i j k:Nat) {o' o'':Oper} (ho:lo[i]? = some o) (ho':lo[j]? = some o') (ho'':lo[k]? = some o'') (hr:Region.ready .any lo.toArray bs.toArray=[i,j,k])
  (h:∀ K,GF P lo Q S0 f (bs.set i true) K→wpList P lo.toArray (Exit.then K Q) [o] ⟨l.toArray,D⟩ w)
  (h':∀ K,GF P lo Q S0 f (bs.set j true) K→wpList P lo.toArray (Exit.then K Q) [o'] ⟨l.toArray,D⟩ w)
  (h'':∀ K,GF P lo Q S0 f (bs.set k true) K→wpList P lo.toArray (Exit.then K Q) [o''] ⟨l.toArray,D⟩ w):Dx P lo Q S0 (f+1) bs l D w:=by
 refine wpAnyH_all hr (by simp) fun q hi=>?_
 rcases List.mem_cons.1 hi with rfl|hi
 ·exact Hl ho h
 ·rcases List.mem_cons.1 hi with rfl|hi
  ·exact Hl ho' h'
  ·obtain rfl:=List.mem_singleton.1 hi;exact Hl ho'' h''
theorem ZF {ops:Array Oper} {Q':Exit→Act→World→Prop} (hK:GF P lo Q S0 f bs K) (hc:St S0 [] w) (h:Dx P lo Q S0 f bs l D w):wpList P ops (Exit.then K Q') [] ⟨l.toArray,D⟩ w:=hK l D w hc h
theorem Az (hr:Region.ready .any lo.toArray bs.toArray=[]) (h:Q .normal ⟨l.toArray,D⟩ w):Dx P lo Q S0 f bs l D w:=wpAnyH_done hr h f
end
variable {P:Program} {S:Ac} {M:List Chunk} {l:List Value} {ops:Array Oper} {rest:List Oper} {Q:Exit→Act→World→Prop} {D:List Deferred} {w:World} {ty:TypeId} {pos:String} {af:Array Edge} {d:Tmp}
theorem sl_formk {v:Value} {T:TypeId} {z n k:Nat} {c:List Value} (h:St S M w) (hk:M[k]? = some (.sl v T z n c)):∃ ad cap,v=.slice ad n cap:=by
 rcases (h.get hk).2 with ⟨rfl,rfl⟩|⟨g,cap,cur,fz,rfl,_⟩
 ·exact ⟨_,_,rfl⟩
 ·exact ⟨_,_,rfl⟩
section
variable {P:Program} {S:Ac} {M:List Chunk} {l:List Value} {T U:TypeId} {x y:Operand}
theorem Qy {n:Int} (h:0≤n∧n≤255):IntKind.u8.wrap n=n:=by
 simp only [IntKind.wrap,IntKind.bits,IntKind.signed];simp;omega
theorem M7 {a b:Int} (hx:Ai l x=.int .i64 a) (hy:Ai l y=.int .i64 b) (hw:0≤a∧0 < b):Qt P l (.binOp .rem T x y U) S M (.int .i64 (a % b)) :=
 Xd hx hy (by omega) (Int.tmod_eq_emod_of_nonneg hw.1)
theorem VV (a b:UInt8):bits .xor .u8 (a.toNat:Int) (b.toNat:Int)=((a ^^^ b).toNat:Int):=by
 show IntKind.u8.wrap ((BitVec.ofInt 8 (a.toNat:Int) ^^^ BitVec.ofInt 8 (b.toNat:Int)).toNat:Int)=_;have e:∀ x:UInt8,BitVec.ofInt 8 (x.toNat:Int)=x.toBitVec:=fun x=>by rw [BitVec.ofInt_natCast];exact BitVec.ofNat_toNat ..
 rw [e,e,Qy (by have:=(a.toBitVec ^^^ b.toBitVec).isLt;omega)];rfl
theorem Mh {vs:List Value} {i:Nat} {v:Value} (hx:Ai l x=.tuple vs.toArray) (hi:vs[i]? = some v):Qt P l (.extract x i) S M v:=fun dst ty pos af w _=>by
 simp [execOp,hx,Instr.extract,hi]
end
variable {P:Program} {S:Ac} {M:List Chunk} {w:World}
theorem St.allocObj (h:St S M w) (o:Obj):St S (.obj w.heap.size o::M) (w.alloc o):=by
 have old:∀ b,b < w.heap.size→(w.alloc o).heap[b]? = w.heap[b]?:=fun b hb=>Below.heap_alloc _ _ _ hb
 refine ⟨h.os,h.tape,h.output,fun b o' e=>?_,fun d hd=>?_,fun d hd b hb=>?_,List.pairwise_cons.2 ⟨fun d hd b hb hd'=>?_,h.apart⟩⟩
 ·have:=h.has b o' e;rw [old b (Array.getElem?_eq_some_iff.1 this).1];exact this
 ·rcases List.mem_cons.1 hd with rfl|hd
  ·exact World.alloc_heap_new w o
  ·exact Chunk.at_of_block (h.at_ d hd) fun b hb=>old b (Chunk.lt (h.at_ d hd) b hb)
 ·rcases List.mem_cons.1 hd with rfl|hd
  ·obtain rfl:w.heap.size=b:=by simpa [Chunk.own] using hb
   cases e:S.blk w.heap.size with
   | none=>rfl
   | some o=>have:=(Array.getElem?_eq_some_iff.1 (h.has _ _ e)).1;omega
  ·exact h.out d hd b hb
 ·obtain rfl:w.heap.size=b:=by simpa [Chunk.own] using hb
  have:=Chunk.lt (h.at_ d hd) _ hd';omega
theorem St.putObj {b:Nat} {o o':Obj} (h:St S (.obj b o::M) w):St S (.obj b o'::M) (w.putObj b o'):=by
 have hb:w.heap[b]? = some o:=h.at_ _ (.head _);refine h.set rfl rfl rfl (World.putObj_heap_same (Array.getElem?_eq_some_iff.1 hb).1) (fun k hk=>.inl hk) fun k _ hk=>World.putObj_heap_other ?_
 intro e;subst e;exact hk rfl
theorem E4 {n m l:Nat} {f:FuncId} {tmps:Array Value} {assign body:Code} {R:Ending→World→Prop} (h:RoundIn Fence.wide n P l f tmps assign body w R):RoundIn Fence.wide m P l f tmps assign body w R :=
 ⟨h.1,fun c cs _=>h.2 c cs (room_wide _)⟩
def KY (P:Program) (S:Ac) (gf:FuncId) (lb:List Value) (N:Nat) (ok:Nat→List Value→Prop):Prop :=
 ∀ (l:Nat) (MM:Nat→List Chunk),(∀ k,k < N→∀ vs,ok k vs→∀ W,St S (MM k) W→YieldAt Fence.wide 0 P l vs.toArray W fun e W'=>e=.returned (.bool true)∧St S (MM (k+1)) W') →
  ∀ W,St S (MM 0) W→Calls P gf (.func (.yield l) #[] #[]::lb).toArray W fun e W'=>(∃ v,e=.returned v)∧St S (MM N) W'
theorem Jz (a b:Chunk) (L C:List Chunk):(a::b::(L++C)).Perm (L++(a::b::C)) :=
 (List.Perm.cons a List.perm_middle.symm).trans List.perm_middle.symm
theorem Zn {g:Operand} {ps:Array Tmp} {assign body:Code} {Q:Exit→Act→World→Prop} {l:List Value} {D:List Deferred} {gf:FuncId} {lb:List Value} {N:Nat} {ok:Nat→List Value→Prop} (I:Nat→List Chunk) (M0:List Chunk)
  (hst:St S (I 0++M0) w) (hg:Ai l g=.func (.func gf) #[] lb.toArray) (hb:Body P gf) (hit:KY P S gf lb N ok) (hps:∀ k vs,ok k vs→vs.length=ps.size) (a1:List Value→Act)
  (hassign:∀ (r:Nat) (vs:List Value) (W:World) (K:Act→World→Prop),vs.length=ps.size→K (a1 vs) W→assign.wpIn (Fence.wide.inRound r) 0 P (Exit.then K (fun _ _ _=>False)) { tmps:=(ps.zip vs.toArray).foldl (fun t (p,v)=>t.setIfInBounds p v) l.toArray,defers:=[] } W)
  (hbody:∀ (r k:Nat) (vs:List Value) (C:List Chunk) (W:World),k < N→ok k vs→St S (I k++C) W→body.wpIn (Fence.wide.inRound r) 0 P (fun e _ W'=>e=.normal∧St S (I (k+1)++C) W') (a1 vs) W)
  (hdone:∀ (d:Nat) (W:World),St S (.obj d (.deferred (some []))::(I N++M0)) W→Q .normal ⟨l.toArray,{ target:=.collected d,args:=#[] }::D⟩ W) :
  (Code.rangeFunc g ps assign body).wp P Q ⟨l.toArray,D⟩ w:=by
 refine (wpIn_wide (n:=0)).1 (wpIn_rangeFunc ?_);intro fn hfn;obtain ⟨rec,hrec⟩:∃ rec:LoopState→Option Code→Loop,rec=fun st pe=>{ state:=st,pending:=pe,fn,tmps:=l.toArray,params:=ps,assign,body,defers:=w.heap.size }:=⟨_,rfl⟩
 obtain ⟨W1,hW1⟩:∃ W1,(w.alloc (.deferred (some []))).alloc (.loop (rec .ready none))=W1:=⟨_,rfl⟩
 have hst1:St S (.obj (w.heap.size+1) (.loop (rec .ready none))::.obj w.heap.size (.deferred (some []))::(I 0++M0)) W1:=by
  rw [← hW1];have:=(hst.allocObj (.deferred (some []))).allocObj (.loop (rec .ready none));rwa [World.size_alloc] at this
 refine ⟨w.heap.size+1,[{ target:=.collected w.heap.size,args:=#[] }],W1,{ target:=.fn (.func gf) lb.toArray,args:=#[.func (.yield (w.heap.size+1)) #[] #[]] },W1,gf,
  (.func (.yield (w.heap.size+1)) #[] #[]::lb).toArray,W1,?_,?_,fun _ _=>trivial,?_,(fun h=>by cases h),?_⟩
 ·rw [← hW1,hrec];exact run_enterLoop_outer _ _ _ _ _
 ·simp only [resolve,CY,hg];simp [go_sem,Ai]
 ·have:=hb.enter (w:=W1) (.func (.yield (w.heap.size+1)) #[] #[]::lb).toArray;simp only [invoke]
  simpa using this
 ·refine callsIn_wide.2 (Calls.mono (hit (w.heap.size+1) (fun k=>.obj (w.heap.size+1) (.loop (rec .ready none))::.obj w.heap.size (.deferred (some []))::(I k++M0)) ?_ W1 hst1) ?_)
  ·intro k hk vs hvs W hW;have hl:W.heap[w.heap.size+1]? = some (.loop (rec .ready none)):=hW.at_ _ (.head _);have hlen:=hps k vs hvs;have hy:=run_yield (P:=P) (args:=vs.toArray) hl (by rw [hrec];simpa using hlen);rw [hrec] at hy;refine ⟨fn,_,assign,body,hy,E4 (n:=0) (roundIn_of_wpIn hfn (hassign _ vs W _ hlen ⟨_,run_beginRound hl (by rw [hrec]),?_⟩))⟩;have hst2:=(hW.putObj (o':=.loop { rec .ready none with state:=.busy })).perm (Jz _ _ _ _);refine wpIn_mono (hbody _ k vs _ _ hk hvs hst2) ?_;rintro e a3 W3 ⟨rfl,hst3⟩;have hst4:=hst3.perm (Jz _ _ _ _).symm;have hl3:W3.heap[w.heap.size+1]? = some (.loop { rec .ready none with state:=.busy }):=hst4.at_ _ (.head _);have hr:=run_endRound (P:=P) none hl3;refine ⟨_,_,hr,rfl,?_⟩;have:=hst4.putObj (o':=.loop (rec .ready none));rw [hrec] at this ⊢;exact this
  ·rintro e W2 ⟨⟨v,rfl⟩,hst2⟩;have hl:W2.heap[w.heap.size+1]? = some (.loop (rec .ready none)):=hst2.at_ _ (.head _);have hr:=run_endLoop (P:=P) hl (by rw [hrec];simp);rw [hrec] at hr;refine ⟨none,_,hr,hdone _ _ ?_⟩;exact (hst2.putObj (o':=.loop _)).drop
theorem FZ {f:FuncId} {fn:Func} {c:Code} {args:List Value} {post:Value→World→Prop} (hf:P.funcs[f]? = some fn) (hb:fn.body=some c)
  (h:c.wp P (bodyPostM Fence.wide 0 P fn fun e w'=>∃ v,e=.returned v∧post v w') { tmps:=args.toArray++Array.replicate (fn.ntmps - args.toArray.size) undef,defers:=[] } w):Ad P f args w post :=
 (callsIn_wide (n:=0)).1 (callsIn_of_wp_marks hf hb trivial ((wpIn_wide (n:=0)).2 h) rfl)
theorem Im {fn:Func} {R:Ending→World→Prop} {l:List Value} {d:Nat} {v:Value} {r:ResultVar} (hst:St S (.obj d (.deferred (some []))::M) w) (hr:fn.results = #[r])
  (hv:∀ w',St S M w'→Gr P l w' r v) (hR:∀ w',St S M w'→R (.returned v) w'):bodyPostM Fence.wide 0 P fn R .ret ⟨l.toArray,[{ target:=.collected d,args:=#[] }]⟩ w:=by
 have hk:w.heap[d]? = some (.deferred (some [])):=hst.at_ _ (.head _);have hst':=(hst.putObj (o':=.deferred none)).drop;refine ⟨by simp,.inl ⟨d,_,rfl,run_takeDeferred hk,?_⟩⟩;refine ⟨v,?_,hR _ hst'⟩;have hn:∀ t,AX l t=l[t]?.getD undef:=fun t=>by simp [Ek]
 have h:=hv _ hst'
 cases r<;>simp only [Gr,hn] at h<;>(try obtain ⟨ad,h,k⟩:=h)<;>simp_all [results,asAddr]
theorem WQ {g:Operand} {p d id:Nat} {ty:TypeId} {pos:String} {af:Array Edge} {body:Code} {Q:Exit→Act→World→Prop} {l:List Value} {D:List Deferred} {gf:FuncId} {lb:List Value} {N:Nat} {ok:Nat→List Value→Prop} (I:Nat→List Chunk) (M0:List Chunk)
  (hst:St S (I 0++M0) w) (hg:Ai l g=.func (.func gf) #[] lb.toArray) (hb:Body P gf) (hit:KY P S gf lb N ok) (hps:∀ k vs,ok k vs→vs.length=1) (hp:p < l.length)
  (hbody:∀ (r k:Nat) (v:Value) (C:List Chunk) (W:World),k < N→ok k [v]→St S (I k++C) W→body.wpIn (Fence.wide.inRound r) 0 P (fun e _ W'=>e=.normal∧St S (I (k+1)++C) W') ⟨((l.set p v).set d v).toArray,[]⟩ W)
  (hdone:∀ (d:Nat) (W:World),St S (.obj d (.deferred (some []))::(I N++M0)) W→Q .normal ⟨l.toArray,{ target:=.collected d,args:=#[] }::D⟩ W) :
  (Code.rangeFunc g #[p] (Code.region id #[⟨some d,.assign (.tmp p),ty,pos,af,none⟩] false) body).wp P Q ⟨l.toArray,D⟩ w:=by
 refine Zn I M0 hst hg hb hit (fun k vs h=>hps k vs h) (fun vs=>⟨((l.set p (vs.headD undef)).set d (vs.headD undef)).toArray,[]⟩) ?_ ?_ hdone
 ·intro r vs W K hl hK;obtain ⟨v,rfl⟩:=List.length_eq_one_iff.1 hl;refine E7 (l:=[⟨some d,.assign (.tmp p),ty,pos,af,none⟩]) (.inr ⟨r,rfl⟩) ?_ rfl ?_
  ·rintro ⟨a,w,h⟩;exact h
  ·have e:((#[p].zip [v].toArray).foldl (fun t (x:Tmp×Value)=>t.setIfInBounds x.1 x.2) l.toArray)=(l.set p v).toArray:=by simp
   show wpList P _ _ _ { tmps:=(#[p].zip [v].toArray).foldl (fun t (x:Tmp×Value)=>t.setIfInBounds x.1 x.2) l.toArray,defers:=[] } W;rw [e];refine Bw (v:=v) (w':=W) ?_ hK;have e2:AX (l.set p v) p=v:=by rw [Ek];simp [hp]
   simp [execOp,Ai,e2]
 ·intro r k vs C W hk hvs hst;obtain ⟨v,rfl⟩:=List.length_eq_one_iff.1 (hps k vs hvs);exact hbody r k v C W hk hvs hst
section
variable {F:Fence} {n:Nat} {ops:Array Oper} {Q:Exit→Act→World→Prop} {l:List Value} {D:List Deferred}
theorem No (k:Nat) {lo:List Oper} {a:Act} (hF:Wd F) (hQ:¬ LetsOut Q) (hd:DW (lo.take k)=true) (h:wpList P ops (Exit.then (wpListIn F n P ops Q (lo.drop k)) Q) (lo.take k) a w):wpListIn F n P ops Q lo a w:=by
 have:=Ki (n:=n) hF hQ (rest:=lo.drop k) (fun a w h=>h) (lo.take k) hd a w h;rwa [List.take_append_drop] at this
theorem EE {lo:List Oper} {a:Act} (hF:Wd F) (hQ:¬ LetsOut Q) (hd:DW lo=true) (h:wpList P ops Q lo a w):wpListIn F n P ops Q lo a w:=by
 have:=Ki (n:=n) (rest:=[]) (K:=Q .normal) (ops:=ops) hF hQ (fun a w h=>h) lo hd a w (by
  have e:Exit.then (Q .normal) Q=Q:=by funext e a w;cases e<;>rfl
  rw [e];exact h)
 rwa [List.append_nil] at this
theorem Pu {rest:List Oper} {d:Tmp} {x:Operand} {xs:List Operand} {ats:Array TypeId} {ty:TypeId} {pos:String} {af:Array Edge} {r:Nat} {vs:List Value} {v:Value} {C:World→Prop}
  (hx:Ai l x=.func (.yield r) #[] #[]) (ha:xs.map (Ai l)=vs) (hy:YieldAt Fence.wide 0 P r vs.toArray w fun e w'=>e=.returned v∧C w')
  (h:∀ w',C w'→wpListIn Fence.wide 0 P ops Q rest ⟨(l.set d v).toArray,D⟩ w') :
  wpListIn Fence.wide 0 P ops Q (⟨some d,.call { callee:=.value x,args:=xs.toArray,argTypes:=ats },ty,pos,af,none⟩::rest) ⟨l.toArray,D⟩ w:=by
 obtain ⟨fn,tmps,assign,body,hr,hR⟩:=hy;subst ha;refine wpListIn_plain rfl fun K hK=>⟨fun _ _=>trivial,?_⟩
 have hrun:(execOp (Ai l) ⟨some d,.call { callee:=.value x,args:=xs.toArray,argTypes:=ats },ty,pos,af,none⟩).run P w=.ok (.round r fn tmps assign body) w:=by
  have e:Array.map (Ai l) xs.toArray=(xs.map (Ai l)).toArray:=by simp
  simp only [execOp,resolve,hx,Deferred.ofValue,Sem.run_bind,Sem.run_pure,Result.andThen_ok,invoke,e,Array.append_empty,Array.empty_append];exact hr
 rw [Oper.semAt_eq _ _ _ (by intro c;simp),CY,hrun];refine ⟨(fun h=>by cases h),E4 (n:=0) (hR.mono ?_)⟩;rintro e w' ⟨rfl,hC⟩;refine hK _ _ ?_;have:=h w' hC
 simpa [Act.put] using this
end
section
variable {P:Program} {lo:List Oper} {Q:Exit→Act→World→Prop}
def QJ (lo:List Oper) (bs:List Bool) (i:Nat):Bool :=
 Region.noSelect lo.toArray && Region.free .any lo.toArray bs.toArray i && (Region.ready .any lo.toArray bs.toArray).contains i
theorem Zb {i:Nat} {oi:Oper} {v:Value} {D:List Deferred} (hi:lo[i]? = some oi) (hsel:Region.noSelect lo.toArray=true) (hns:DH oi=false) :
  ∀ (f:Nat) (S:Ac) (M:List Chunk) (bs:List Bool) (l:List Value),
   (∀ j oj,lo[j]? = some oj→j≠i→bs.toArray.getD j true=false→(∀ e∈oj.after,Region.binds .any e=true→e.on≠i)→oi.apart lo.toArray oj=true) →
   i∈Region.ready .any lo.toArray bs.toArray→(Region.wanted oi (yielded lo.toArray l.toArray)=true∧(∀ S M,YX P S M l oi v)∨Region.wanted oi (yielded lo.toArray l.toArray)=false∧v=undef) →
   Bt P lo Q f S M (bs.set i true) (A0 l oi.dst v) D→Bt P lo Q (f+1) S M bs l D:=by
 have hi':lo.toArray[i]? = some oi:=by simpa using hi
 have first:∀ {f:Nat} {S:Ac} {M:List Chunk} {bs:List Bool} {l:List Value} {w:World},(Region.wanted oi (yielded lo.toArray l.toArray)=true∧(∀ S M,YX P S M l oi v)∨Region.wanted oi (yielded lo.toArray l.toArray)=false∧v=undef)→St S M w →
   Bt P lo Q f S M (bs.set i true) (A0 l oi.dst v) D→wpOp P lo.toArray (NoPanic Q) i (fun a' w'=>∃ S' M' l',((∃ o,lo[i]? = some o∧DH o=true)∨(S.Le S'∧Suf M M'))∧a'=⟨l'.toArray,D⟩∧St S' M' w'∧Bt P lo Q f S' M' (bs.set i true) l' D) ⟨l.toArray,D⟩ w:=by
  intro f S M bs l w hy hst H;rcases hy with ⟨hw,hy⟩|⟨hw,rfl⟩
  ·exact LX hi' hw hst (hy S M S M w (Ac.Le.refl S) (Suf.refl M) hst) fun w' hw'=>⟨S,M,_,.inr ⟨Ac.Le.refl S,Suf.refl M⟩,rfl,hw',H⟩
  ·unfold wpOp;simp only [hi',hw,Bool.false_eq_true,if_false];exact ⟨S,M,_,.inr ⟨Ac.Le.refl S,Suf.refl M⟩,EA l D oi.dst undef,hst,H⟩
 intro f
 induction f with
 | zero =>
  intro S M bs l hfree hr hy H;refine ⟨fun e=>(by rw [e] at hr;cases hr),fun j hj w hst=>?_⟩;by_cases hji:j=i
  ·subst hji;exact first hy hst H
  ·have:=ready_mono hj hji;rw [Ef,H.1] at this;cases this
 | succ f ih =>
  intro S M bs l hfree hr hy H;refine ⟨fun e=>(by rw [e] at hr;cases hr),fun j hj w hst=>?_⟩;by_cases hji:j=i
  ·subst hji;exact first hy hst H
  ·have hj2:j∈Region.ready .any lo.toArray (bs.set i true).toArray:=by rw [← Ef];exact ready_mono hj hji
   have h1:=H.2 j hj2 w hst;obtain ⟨hjun,oj,hoj,hall⟩:=mem_ready.1 hj
   have hnot:∀ e∈oj.after,Region.binds .any e=true→e.on≠i:=fun e he hb heq=>by
    have h1:=hall e he hb;have h0:=(mem_ready.1 hr).1;rw [heq,getD_both h0] at h1;cases h1
   have hoj':lo[j]? = some oj:=by simpa using hoj
   rw [← EA] at h1;have h2:=ND (i:=i) hoj (hfree j oj hoj' hji hjun hnot) (fun cs b=>Region.noSelect_spec hsel i oi cs b hi') (fun cs b=>Region.noSelect_spec hsel j oj cs b hoj) h1;refine wpOp_mono (fun a' w' h3=>?_) h2;obtain ⟨⟨hc1,hc2⟩,S',M',l'',hex,hl,hst',hA⟩:=h3;obtain ⟨t,d⟩:=a'
   have hd:d=D:=by
    have:=congrArg Act.defers hl
    cases ho:oi.dst<;>simpa [Act.put,ho] using this
   subst hd;obtain ⟨l',rfl⟩:∃ l':List Value,t=l'.toArray:=⟨t.toList,by simp⟩
   rw [EA] at hl
   obtain rfl:A0 l' oi.dst v=l'':=by
    have:=congrArg (fun a=>a.tmps.toList) hl
    simpa using this
   refine ⟨S',M',l',hex,rfl,hst',ih S' M' (bs.set j true) l' ?_ ?_ ?_ ?_⟩
   ·intro k ok hk hki hun hno;refine hfree k ok hk hki ?_ hno;rw [← Ef] at hun;by_cases hjk:j=k
    ·subst hjk;exact hjun
    ·rwa [getD_set_ne true hjk] at hun
   ·rw [← Ef];exact ready_mono hr (Ne.symm hji)
   ·rw [CY,CY] at hc1;rcases hy with ⟨hw,hy⟩|⟨hw,hv⟩
    ·refine .inl ⟨hc2.trans hw,?_⟩;intro S1 M1 S2 M2 w2 hS2 hM2 hst2;rw [hc1];exact hy S1 M1 S2 M2 w2 hS2 hM2 hst2
    ·exact .inr ⟨hc2.trans hw,hv⟩
   ·have e:=Array.setIfInBounds_comm (xs:=bs.toArray) (i:=i) (j:=j) true true (Ne.symm hji)
    have e':(bs.set i true).set j true=(bs.set j true).set i true:=by
     have:=congrArg Array.toList e
     simpa using this
    rw [← e'];exact hA
variable {S:Ac} {M:List Chunk} {f:Nat} {bs:List Bool} {l:List Value} {D:List Deferred} {o:Oper} {v:Value}
theorem Ee (k:Nat) (ho:lo[k]? = some o) (hok:QJ lo bs k=true) (hns:DH o=false) (hw:Region.wanted o (yielded lo.toArray l.toArray)=true) (hq:∀ S M,Qt P l o.op S M v)
  (h:Bt P lo Q f S M (bs.set k true) (A0 l o.dst v) D):Bt P lo Q (f+1) S M bs l D:=by
 simp only [QJ,Bool.and_eq_true] at hok;obtain ⟨⟨h1,h2⟩,h3⟩:=hok;have ho':lo.toArray[k]? = some o:=by simpa using ho
 exact Zb ho h1 hns f S M bs l (fun j oj hj=>Region.free_spec ho' h2 j oj (by simpa using hj)) (by simpa using h3) (.inl ⟨hw,fun S M=>YX.qt (hq S M)⟩) h
end
theorem Gj {P:Program} {S:Ac} {M:List Chunk} {l:List Value} {T:TypeId} {x y z:Operand} {b:List UInt8} {k k':IntKind} {i m:Nat} {j n:Int} (hx:Ai l x=.string ⟨b.toArray⟩) (hy:Ai l y=.int k j) (hz:Ai l z=.int k' n) (hj:j=(i:Nat)) (hn:n=(m:Nat)) (hT:StrT P T) (him:i≤m) (hm:m≤b.length):Qt P l (.slice T x (some y) (some z) none) S M (.string ⟨((b.drop i).take (m - i)).toArray⟩):=fun dst ty pos af w _=>by
 subst hj;subst hn;have h:=run_slice_string (P:=P) (w:=w) T ⟨b.toArray⟩ k k' (i:Int) (m:Int) hT.u (by omega) (by omega) (by show (m:Int)≤((b.toArray.size:Nat):Int);rw [List.size_toArray];omega);rw [ByteArray.extract_mk,Int.toNat_natCast,Int.toNat_natCast] at h;simp only [execOp,hx,Sem.run_bind,Option.map_none,Option.map_some,hy,hz];rw [run_sliceAt_string _ T _ _ _ _ hT.u,h];rfl
theorem ZD {P:Program} {S:Ac} {M:List Chunk} {l:List Value} {T:TypeId} {x y z:Operand} {b:List UInt8} {k k':IntKind} {i n:Nat} (hx:Ai l x=.string ⟨b.toArray⟩) (hy:Ai l y=.int k (i:Int)) (hz:Ai l z=.int k' ((i:Int)+(n:Int))) (hT:StrT P T) (hm:i+n≤b.length):Qt P l (.slice T x (some y) (some z) none) S M (.string ⟨((b.drop i).take n).toArray⟩):=by
 have h:=Gj (S:=S) (M:=M) (i:=i) (m:=i+n) hx hy hz rfl (by omega) hT (by omega) hm;rw [Nat.add_sub_cancel_left] at h;exact h
variable {P:Program} {S:Ac} {M:List Chunk} {l:List Value} {ops:Array Oper} {rest:List Oper} {Q:Exit→Act→World→Prop} {D:List Deferred} {w:World} {ty:TypeId} {pos:String} {af:Array Edge} {d:Tmp}
theorem WS {k:Nat} {v x:Value} {t tx ty E:TypeId} {agg:Bool} {z n m:Nat} {zero c news:List Value} {bb:Nat} (hst:St S M w) (hk:M[k]? = some (.sl v E z n c)) (hT:SlT P t E) (hE:Ty P E agg z zero bb)
  (hs:Src P z tx x m news w) (h1:∀ u∈news,u.oneCell'=true) (hm:m≤n) :
  ∃ w',(Builtin.copy_ #[t,tx] ty #[v,x]).run P w=.ok (goInt m) w'∧St S (M.set k (.sl v E z n (news++c.drop (m * z)))) w':=by
 obtain ⟨i,hi,hiz,his,hib⟩:=hE.run_bytes;have hmv:=hst.move hk;have h0:=hmv.at_ _ (.head _);have hlen:=hs.len;have hcells:=hs.cells;have hnl:=hs.newsLen;have hmin:∀ q,m≤q→Nat.min m q=m:=fun q hq=>Nat.min_eq_left hq
 rcases h0.2 with ⟨rfl,rfl⟩|⟨g,cap,cur,fz,rfl,hg,hfz,hnc,hcm,hcs,htk⟩
 ·obtain rfl:m=0:=by omega
  have hc0:c=[]:=List.eq_nil_of_length_eq_zero (by simpa using h0.1);subst hc0;have hnews:news=[]:=List.eq_nil_of_length_eq_zero (by simpa using hnl);subst hnews;refine ⟨w,?_,St.back hk (by simpa using hmv)⟩;simp [Builtin.copy_,run_underlying hT.u,sizeOf,typeInfo,hi,his,hlen,hcells]
 ·have hle:m * z≤n * z:=Nat.mul_le_mul_right _ hm
  have hfit:0+news.length≤cur.size:=by
   rw [hnl,Nat.zero_add];exact Nat.le_trans hle (Nat.le_trans (Nat.mul_le_mul_right _ hnc) hcs)
  have hcell:∀ j,j < news.length→(w.cell? ⟨g,0+0+j,none⟩).isSome=true:=fun j hj=>by
   have hlt:j < cur.size:=by omega
   simp only [World.cell?,hg];simp [hlt]
  have hfro:∀ j,j < news.length→w.frozen? ⟨g,0+0+j,none⟩=false:=fun j hj=>by
   have:=hfz j (by omega);simp only [World.frozen?,hg]
   simpa using this
  have hrun:=run_storeCells_cells (P:=P) g 0 news 0 w hcell hfro (fun u hu=>h1 u hu);have hat:=Fq g E fz news 0 w cur.toList (by simpa using hg) (by simpa using hfit);obtain ⟨e1,e2,e3⟩:=Eg g news 0 w;simp only [Nat.add_zero] at hrun;refine ⟨_,?_,St.back hk (hmv.set e1 e2 e3 ⟨?_,.inr ⟨g,cap,_,fz,rfl,hat,?_,hnc,hcm,?_,?_⟩⟩ (fun b hb=>.inl hb) (fun b _ hne=>Eh g news _ w b (fun e=>hne (by simp [Chunk.own,Value.ownBlock,e]))))⟩
  ·simp [Builtin.copy_,run_underlying hT.u,sizeOf,typeInfo,hi,his,hlen,hmin n hm,hcells,hrun]
  ·rw [List.length_append,List.length_drop,hnl,h0.1];omega
  ·intro j hj;refine hfz j ?_;simp only [List.size_toArray,List.length_append,List.length_take,List.length_drop,Array.length_toList] at hj;omega
  ·simp only [List.size_toArray,List.length_append,List.length_take,List.length_drop,Array.length_toList];omega
  ·rw [List.toList_toArray,List.take_zero,List.nil_append,Nat.zero_add,List.take_append,List.take_of_length_le (by omega),← htk,List.drop_take,hnl]
theorem bS {x y:Operand} {k:Nat} {v u:Value} {t tx E:TypeId} {agg:Bool} {z n m:Nat} {zero c news:List Value} {bb:Nat} (hst:St S M w) (hx:Ai l x=v) (hy:Ai l y=u) (hk:M[k]? = some (.sl v E z n c)) (hT:SlT P t E) (hE:Ty P E agg z zero bb)
  (hs:Src P z tx u m news w) (h1:∀ u∈news,u.oneCell'=true) (hm:m≤n)
  (h:∀ w',St S (M.set k (.sl v E z n (news++c.drop (m * z)))) w'→wpList P ops Q rest ⟨(l.set d (.int .i64 m)).toArray,D⟩ w') :
  wpList P ops Q (⟨some d,.call { callee:=.builtin .copy,args:=#[x,y],argTypes:=#[t,tx] },ty,pos,af,none⟩::rest) ⟨l.toArray,D⟩ w:=by
 obtain ⟨w',hr,hst'⟩:=WS (P:=P) (ty:=ty) hst hk hT hE hs h1 hm;refine Bw (v:=.int .i64 m) (w':=w') ?_ (h _ hst');simp [execOp,resolve,invoke,builtin,hx,hy,hr,goInt]
variable {P:Program} {w:World} {l:List Value} {S:Ac} {M:List Chunk}
section
variable {P:Program} {lo:List Oper} {Q:Exit→Act→World→Prop}
def Oy (P:Program) (S:Ac) (M:List Chunk) (l:List Value) (o:Oper) (F:Ac→Value→Prop):Prop :=
 ∀ S' w,S.Le S'→St S' M w→(∃ fn args,(execOp (Ai l) o).run P w=.ok (.enter fn args) w∧Calls P fn args w (fun e w'=>∃ v S'',e=.returned v∧S'.Le S''∧F S'' v∧St S'' M w')) ∨
  (∃ v w' S'',(execOp (Ai l) o).run P w=.ok (.value v) w'∧S'.Le S''∧F S'' v∧St S'' M w')
theorem Oy.mono {S S1:Ac} {M:List Chunk} {l:List Value} {o:Oper} {F:Ac→Value→Prop} (h:Oy P S M l o F) (hS:S.Le S1):Oy P S1 M l o F :=
 fun S' w h1 h2=>h S' w (hS.trans h1) h2
structure Y3 (P:Program) (lo:List Oper) (S:Ac) (M:List Chunk) (l:List Value) (k:Nat) (d:Tmp) (F:Ac→Value→Prop):Prop where
 ex:∃ o,lo[k]? = some o∧o.dst=some d∧DH o=false∧Region.wanted o (yielded lo.toArray l.toArray)=true∧Oy P S M l o F
abbrev NB:=Nat×Tmp×(Ac→Value→Prop)
variable {S:Ac} {M:List Chunk} {l:List Value}
end
section
variable {P:Program} {lo:List Oper} {Q:Exit→Act→World→Prop} {S:Ac} {M:List Chunk} {l:List Value}
theorem Sls.mono {S S':Ac} (hS:S.Le S') {vs:List Value} {xs:List (List UInt8)} (h:Sls S vs xs):Sls S' vs xs:=by
 induction h with
 | nil=>exact .nil
 | cons h _ ih=>exact .cons (h.mono hS) ih
abbrev AP (xs:List (List UInt8)):Ac→Value→Prop:=fun S v=>RSl S v xs∧v.oneCell'=true
def K1:List NB→Prop
 | []=>True
 | b::r=>(∀ S S' v,S.Le S'→b.2.2 S v→b.2.2 S' v)∧K1 r
def MU (P:Program) (lo:List Oper) (S:Ac) (M:List Chunk) (l:List Value):List NB→Prop
 | []=>True
 | b::r=>Y3 P lo S M l b.1 b.2.1 b.2.2∧MU P lo S M l r
def JK (S:Ac) (vs:Nat→Value):List NB→Prop
 | []=>True
 | b::r=>b.2.2 S (vs b.1)∧JK S vs r
theorem K1.all:∀ {bag:List NB},K1 bag→∀ b∈bag,∀ S S' v,S.Le S'→b.2.2 S v→b.2.2 S' v
 | _::_,h,_,.head _=>h.1
 | _::_,h,_,.tail _ hb=>K1.all h.2 _ hb
theorem MU.all:∀ {bag:List NB},MU P lo S M l bag→∀ b∈bag,Y3 P lo S M l b.1 b.2.1 b.2.2
 | _::_,h,_,.head _=>h.1
 | _::_,h,_,.tail _ hb=>MU.all h.2 _ hb
theorem JK.mk:∀ {bag:List NB} {S:Ac} {vs:Nat→Value},(∀ b∈bag,b.2.2 S (vs b.1))→JK S vs bag
 | [],_,_,_=>trivial
 | b::_,_,_,h=>⟨h b (.head _),JK.mk fun c hc=>h c (.tail _ hc)⟩
end
variable {P:Program} {S:Ac} {M:List Chunk} {w:World}
theorem YP (B L:List Chunk) (a:Chunk) (C:List Chunk):(B++(L++(a::C))).Perm (a::(B++(L++C))) :=
 (List.Perm.append_left B List.perm_middle).trans List.perm_middle
theorem WP {g:Operand} {ps:Array Tmp} {assign body:Code} {Q:Exit→Act→World→Prop} {l:List Value} {D:List Deferred} {gf:FuncId} {lb:List Value} {N:Nat} {ok:Nat→List Value→Prop} (I:Nat→List Chunk) (M0:List Chunk)
  (hst:St S (I 0++M0) w) (hg:Ai l g=.func (.func gf) #[] lb.toArray) (hb:Body P gf) (hit:KY P S gf lb N ok) (hps:∀ k vs,ok k vs→vs.length=ps.size) (okA:Nat→Act→List Chunk→Prop)
  (hassign:∀ (r k:Nat) (vs:List Value) (C:List Chunk) (W:World) (K:Act→World→Prop),k < N→ok k vs→St S (I k++C) W→(∀ a' B W',okA k a' B→St S (B++(I k++C)) W'→K a' W')→assign.wpIn (Fence.wide.inRound r) 0 P (Exit.then K (fun _ _ _=>False)) { tmps:=(ps.zip vs.toArray).foldl (fun t (p,v)=>t.setIfInBounds p v) l.toArray,defers:=[] } W)
  (hbody:∀ (r k:Nat) (a':Act) (B:List Chunk) (C:List Chunk) (W:World),k < N→okA k a' B→St S (B++(I k++C)) W→body.wpIn (Fence.wide.inRound r) 0 P (fun e _ W'=>e=.normal∧St S (I (k+1)++C) W') a' W)
  (hdone:∀ (d:Nat) (W:World),St S (.obj d (.deferred (some []))::(I N++M0)) W→Q .normal ⟨l.toArray,{ target:=.collected d,args:=#[] }::D⟩ W) :
  (Code.rangeFunc g ps assign body).wp P Q ⟨l.toArray,D⟩ w:=by
 refine (wpIn_wide (n:=0)).1 (wpIn_rangeFunc ?_);intro fn hfn;obtain ⟨rec,hrec⟩:∃ rec:LoopState→Option Code→Loop,rec=fun st pe=>{ state:=st,pending:=pe,fn,tmps:=l.toArray,params:=ps,assign,body,defers:=w.heap.size }:=⟨_,rfl⟩
 obtain ⟨W1,hW1⟩:∃ W1,(w.alloc (.deferred (some []))).alloc (.loop (rec .ready none))=W1:=⟨_,rfl⟩
 have hst1:St S (.obj (w.heap.size+1) (.loop (rec .ready none))::.obj w.heap.size (.deferred (some []))::(I 0++M0)) W1:=by
  rw [← hW1];have:=(hst.allocObj (.deferred (some []))).allocObj (.loop (rec .ready none));rwa [World.size_alloc] at this
 refine ⟨w.heap.size+1,[{ target:=.collected w.heap.size,args:=#[] }],W1,{ target:=.fn (.func gf) lb.toArray,args:=#[.func (.yield (w.heap.size+1)) #[] #[]] },W1,gf,
  (.func (.yield (w.heap.size+1)) #[] #[]::lb).toArray,W1,?_,?_,fun _ _=>trivial,?_,(fun h=>by cases h),?_⟩
 ·rw [← hW1,hrec];exact run_enterLoop_outer _ _ _ _ _
 ·simp only [resolve,CY,hg];simp [go_sem,Ai]
 ·have:=hb.enter (w:=W1) (.func (.yield (w.heap.size+1)) #[] #[]::lb).toArray;simp only [invoke]
  simpa using this
 ·refine callsIn_wide.2 (Calls.mono (hit (w.heap.size+1) (fun k=>.obj (w.heap.size+1) (.loop (rec .ready none))::.obj w.heap.size (.deferred (some []))::(I k++M0)) ?_ W1 hst1) ?_)
  ·intro k hk vs hvs W hW;have hl:W.heap[w.heap.size+1]? = some (.loop (rec .ready none)):=hW.at_ _ (.head _);have hlen:=hps k vs hvs;have hy:=run_yield (P:=P) (args:=vs.toArray) hl (by rw [hrec];simpa using hlen);rw [hrec] at hy;refine ⟨fn,_,assign,body,hy,E4 (n:=0) (roundIn_of_wpIn hfn (hassign _ k vs _ W _ hk hvs (hW.perm (Jz _ _ _ _)) fun a' B W' hA hst0=>?_))⟩;have hst0':=hst0.perm (YP B (I k) _ _);have hl':W'.heap[w.heap.size+1]? = some (.loop (rec .ready none)):=hst0'.at_ _ (.head _);refine ⟨_,run_beginRound hl' (by rw [hrec]),?_⟩;have hst2:=(hst0'.putObj (o':=.loop { rec .ready none with state:=.busy })).perm (YP B (I k) _ _).symm;refine wpIn_mono (hbody _ k a' B _ _ hk hA hst2) ?_;rintro e a3 W3 ⟨rfl,hst3⟩;have hst4:=hst3.perm (Jz _ _ _ _).symm;have hl3:W3.heap[w.heap.size+1]? = some (.loop { rec .ready none with state:=.busy }):=hst4.at_ _ (.head _);have hr:=run_endRound (P:=P) none hl3;refine ⟨_,_,hr,rfl,?_⟩;have:=hst4.putObj (o':=.loop (rec .ready none));rw [hrec] at this ⊢;exact this
  ·rintro e W2 ⟨⟨v,rfl⟩,hst2⟩;have hl:W2.heap[w.heap.size+1]? = some (.loop (rec .ready none)):=hst2.at_ _ (.head _);have hr:=run_endLoop (P:=P) hl (by rw [hrec];simp);rw [hrec] at hr;refine ⟨none,_,hr,hdone _ _ ?_⟩;exact (hst2.putObj (o':=.loop _)).drop
variable {P:Program} {S:Ac} {M:List Chunk} {w:World}
theorem WO {g:Operand} {p d id:Nat} {T:TypeId} {z:Nat} {zero:List Value} {bb:Nat} {ty1 ty2:TypeId} {pos1 pos2:String} {af1 af2:Array Edge} {body:Code} {Q:Exit→Act→World→Prop} {l:List Value} {D:List Deferred} {gf:FuncId} {lb:List Value} {N:Nat} {ok:Nat→List Value→Prop} (I:Nat→List Chunk) (M0:List Chunk)
  (hst:St S (I 0++M0) w) (hg:Ai l g=.func (.func gf) #[] lb.toArray) (hb:Body P gf) (hit:KY P S gf lb N ok) (hT:Ty P T true z zero bb) (hps:∀ k vs,ok k vs→∃ cs:List Value,vs=[.agg cs.toArray]∧cs.length=z∧cs.all (·.oneCell')=true) (hp:p < l.length) (hd:d < l.length) (hne:p≠d)
  (hbody:∀ (r k b:Nat) (cs:List Value) (C:List Chunk) (W:World),k < N→ok k [.agg cs.toArray]→St S (.box b cs T::(I k++C)) W→body.wpIn (Fence.wide.inRound r) 0 P (fun e _ W'=>e=.normal∧St S (I (k+1)++C) W') ⟨((l.set p (.agg cs.toArray)).set d (.pointer (some ⟨b,0,none⟩))).toArray,[]⟩ W)
  (hdone:∀ (d:Nat) (W:World),St S (.obj d (.deferred (some []))::(I N++M0)) W→Q .normal ⟨l.toArray,{ target:=.collected d,args:=#[] }::D⟩ W) :
  (Code.rangeFunc g #[p] (Code.region id #[⟨some d,.alloc T,ty1,pos1,af1,none⟩,⟨none,.store T (.tmp d) (.tmp p),ty2,pos2,af2,none⟩] false) body).wp P Q ⟨l.toArray,D⟩ w:=by
 refine WP I M0 hst hg hb hit (fun k vs h=>by obtain ⟨cs,rfl,_⟩:=hps k vs h;rfl)
  (fun k a' B=>∃ (cs:List Value) (b:Nat),ok k [.agg cs.toArray]∧B=[.box b cs T]∧a'=⟨((l.set p (.agg cs.toArray)).set d (.pointer (some ⟨b,0,none⟩))).toArray,[]⟩) ?_ ?_ hdone
 ·intro r k vs C W K hk hok hst hK;obtain ⟨cs,rfl,hl,h1⟩:=hps k vs hok;have e:((#[p].zip [Value.agg cs.toArray].toArray).foldl (fun t (x:Tmp×Value)=>t.setIfInBounds x.1 x.2) l.toArray)=(l.set p (.agg cs.toArray)).toArray:=by simp
  show Code.wpIn _ _ _ _ _ { tmps:=(#[p].zip [Value.agg cs.toArray].toArray).foldl (fun t (x:Tmp×Value)=>t.setIfInBounds x.1 x.2) l.toArray,defers:=[] } W;rw [e];refine E7 (l:=[⟨some d,.alloc T,ty1,pos1,af1,none⟩,⟨none,.store T (.tmp d) (.tmp p),ty2,pos2,af2,none⟩]) (.inr ⟨r,rfl⟩) ?_ rfl ?_
  ·rintro ⟨a,w,h⟩;exact h
  ·refine Bv hst hT fun b w' hst'=>?_
   have e1:AX ((l.set p (Value.agg cs.toArray)).set d (.pointer (some ⟨b,0,none⟩))) d=.pointer (some ⟨b,0,none⟩):=by rw [Ek];simp [hd]
   have e2:AX ((l.set p (Value.agg cs.toArray)).set d (.pointer (some ⟨b,0,none⟩))) p=.agg cs.toArray:=by
    have hne':=Ne.symm hne;rw [Ek];simp [hp,hne']
   refine AB hst' (b:=b) (off:=0) e1 0 rfl hT e2 (cs:=cs) rfl hl h1 (by rw [hT.len_];omega) fun w2 hst2=>?_
   refine hK _ [.box b cs T] w2 ⟨cs,b,hok,rfl,rfl⟩ ?_;have hz:zero.length=z:=hT.len_;have e3:List.take 0 zero++cs++List.drop (0+z) zero=cs:=by rw [List.take_zero,List.nil_append,List.drop_of_length_le (by omega),List.append_nil]
   have:St S (.box b (List.take 0 zero++cs++List.drop (0+z) zero) T::(I k++C)) w2:=hst2;rw [e3] at this;exact this
 ·rintro r k a' B C W hk ⟨cs,b,hok,rfl,rfl⟩ hst;exact hbody r k b cs C W hk hok hst
variable {P:Program} {S:Ac} {M:List Chunk} {w:World}
abbrev MT:=Ac→List Chunk→Prop
def GG (P:Program) (S:Ac) (gf:FuncId) (lb:List Value) (N:Nat) (ok:Nat→List Value→Prop) (go:Nat→Prop) (A:Nat→List Chunk):Prop :=
 ∀ (l:Nat) (J:Nat→MT) (X:MT),
  (∀ k,k < N→∀ vs,ok k vs→∀ (S':Ac) (M C:List Chunk) (W:World),S.Le S'→J k S' M→St S' (A k++(M++C)) W→YieldAt Fence.wide 0 P l vs.toArray W fun e W' =>
   (e=.returned (.bool true)∧go k∧∃ S'' M',S'.Le S''∧J (k+1) S'' M'∧St S'' (A k++(M'++C)) W')∨(e=.returned (.bool false)∧∃ S'' M',S'.Le S''∧X S'' M'∧St S'' (A k++(M'++C)) W')) →
  ∀ (S':Ac) (M:List Chunk) (W:World),S.Le S'→J 0 S' M→St S' (A 0++M) W→Calls P gf (.func (.yield l) #[] #[]::lb).toArray W fun e W'=>(∃ v,e=.returned v) ∧
   ∃ S'' M',S'.Le S''∧((J N S'' M'∧St S'' (A N++M') W')∨(X S'' M'∧∃ k,k < N∧St S'' (A k++M') W'))
theorem GG.mono {S S':Ac} {gf:FuncId} {lb:List Value} {N:Nat} {ok:Nat→List Value→Prop} {go:Nat→Prop} {A:Nat→List Chunk} (hS:S.Le S') (h:GG P S gf lb N ok go A):GG P S' gf lb N ok go A :=
 fun l J X hY S2 M W hS2=>h l (fun k T M=>S'.Le T∧J k T M) (fun T M=>X T M)
  (fun k hk vs hvs T M C W hT hJ hst=>by
   obtain ⟨fn,tm,ac,bd,h1,h2⟩:=hY k hk vs hvs T M C W hJ.1 hJ.2 hst;refine ⟨fn,tm,ac,bd,h1,h2.mono ?_⟩;rintro e W' (⟨h1,h2,T2,M2,h3,h4,h5⟩|h)
   ·exact .inl ⟨h1,h2,T2,M2,h3,⟨hJ.1.trans h3,h4⟩,h5⟩
   ·exact .inr h)
  S2 M W (hS.trans hS2) |> fun g hJ hst=>Calls.mono (g ⟨hS2,hJ⟩ hst) fun e W' ⟨h1,T2,M2,h3,h4⟩=>⟨h1,T2,M2,h3,h4.imp (fun h=>⟨h.1.2,h.2⟩) id⟩
theorem Gx (L A M:List Chunk):(L++(A++M)).Perm (A++(L++M)):=by
 rw [← List.append_assoc,← List.append_assoc];exact List.Perm.append_right M List.perm_append_comm
theorem Sn (A M C:List Chunk) (a b:Chunk):(A++((a::b::M)++C)).Perm (a::b::(A++(M++C))):=Gx A [a,b] (M++C)
theorem fI (B A M C:List Chunk) (a b:Chunk):(a::(B++(b::(A++(M++C))))).Perm (B++(A++(M++(a::b::C)))):=by
 refine List.perm_middle.symm.trans (List.Perm.append_left B ?_);refine (Gx [a,b] A (M++C)).trans (List.Perm.append_left A ?_);exact Gx [a,b] M C
theorem YO (A M C:List Chunk) (a b:Chunk):(A++(M++(a::b::C))).Perm (a::b::(A++(M++C))) :=
 (List.Perm.append_left A (Gx M [a,b] C)).trans (Gx A [a,b] (M++C))
theorem Sp (A L M C:List Chunk):(A++((L++M)++C)).Perm (L++(A++(M++C))):=by
 rw [List.append_assoc];exact Gx A L (M++C)
theorem So (L E A M C:List Chunk):(L++(E++(A++(M++C)))).Perm (E++(A++(M++(L++C)))):=by
 have:=Gx L (E++(A++M)) C
 simpa [List.append_assoc] using this
theorem ON {g:Operand} {ps:Array Tmp} {assign body:Code} {Q:Exit→Act→World→Prop} {l:List Value} {D:List Deferred} {gf:FuncId} {lb:List Value} {N:Nat} {ok:Nat→List Value→Prop} {go:Nat→Prop} {A:Nat→List Chunk} (J:Nat→MT) (X:MT) {M0:List Chunk}
  (hst:St S (A 0++M0) w) (hJ0:J 0 S M0) (hg:Ai l g=.func (.func gf) #[] lb.toArray) (hb:Body P gf) (hit:GG P S gf lb N ok go A) (hps:∀ k vs,ok k vs→vs.length=ps.size) (okA:Nat→Act→List Chunk→Prop)
  (hassign:∀ (r k:Nat) (vs:List Value) (S':Ac) (M:List Chunk) (W:World) (K:Act→World→Prop),k < N→ok k vs→S.Le S'→St S' M W→(∀ a' B W',okA k a' B→St S' (B++M) W'→K a' W')→assign.wpIn (Fence.wide.inRound r) 0 P (Exit.then K (fun _ _ _=>False)) { tmps:=(ps.zip vs.toArray).foldl (fun t (p,v)=>t.setIfInBounds p v) l.toArray,defers:=[] } W)
  (hbody:∀ (r k:Nat) (a':Act) (B:List Chunk) (S':Ac) (M C:List Chunk) (W:World),k < N→okA k a' B→S.Le S'→J k S' M→St S' (B++(A k++(M++C))) W→body.wpIn (Fence.wide.inRound r) 0 P (fun e _ W' =>
   (e=.normal∧go k∧∃ S'' M',S'.Le S''∧J (k+1) S'' M'∧St S'' (A k++(M'++C)) W')∨(e=.ret∧∃ S'' M',S'.Le S''∧X S'' M'∧St S'' (A k++(M'++C)) W')) a' W)
  (hdone:∀ (d:Nat) (S':Ac) (M:List Chunk) (W:World),S.Le S'→J N S' M→St S' (.obj d (.deferred (some []))::(A N++M)) W→Q .normal ⟨l.toArray,{ target:=.collected d,args:=#[] }::D⟩ W)
  (hstop:∀ (d k:Nat) (S':Ac) (M:List Chunk) (W:World),k < N→S.Le S'→X S' M→St S' (.obj d (.deferred (some []))::(A k++M)) W→Q .ret ⟨l.toArray,{ target:=.collected d,args:=#[] }::D⟩ W) :
  (Code.rangeFunc g ps assign body).wp P Q ⟨l.toArray,D⟩ w:=by
 refine (wpIn_wide (n:=0)).1 (wpIn_rangeFunc ?_);intro fn hfn;obtain ⟨rec,hrec⟩:∃ rec:LoopState→Option Code→Loop,rec=fun st pe=>{ state:=st,pending:=pe,fn,tmps:=l.toArray,params:=ps,assign,body,defers:=w.heap.size }:=⟨_,rfl⟩
 obtain ⟨W1,hW1⟩:∃ W1,(w.alloc (.deferred (some []))).alloc (.loop (rec .ready none))=W1:=⟨_,rfl⟩
 have hst1:St S (.obj (w.heap.size+1) (.loop (rec .ready none))::.obj w.heap.size (.deferred (some []))::(A 0++M0)) W1:=by
  rw [← hW1];have:=(hst.allocObj (.deferred (some []))).allocObj (.loop (rec .ready none));rwa [World.size_alloc] at this
 obtain ⟨n,hn⟩:∃ n,w.heap.size=n:=⟨_,rfl⟩
 rw [hn] at hst1 hrec
 refine ⟨n+1,[{ target:=.collected n,args:=#[] }],W1,{ target:=.fn (.func gf) lb.toArray,args:=#[.func (.yield (n+1)) #[] #[]] },W1,gf,
  (.func (.yield (n+1)) #[] #[]::lb).toArray,W1,?_,?_,fun _ _=>trivial,?_,(fun h=>by cases h),?_⟩
 ·rw [← hW1,hrec,← hn];exact run_enterLoop_outer _ _ _ _ _
 ·simp only [resolve,CY,hg];simp [go_sem,Ai]
 ·have:=hb.enter (w:=W1) (.func (.yield (n+1)) #[] #[]::lb).toArray;simp only [invoke]
  simpa using this
 ·have goes:=hit (n+1) (fun k S' M=>∃ M1,M=.obj (n+1) (.loop (rec .ready none))::.obj n (.deferred (some []))::M1∧J k S' M1)
   (fun S' M=>∃ M1,M=.obj (n+1) (.loop (rec .done (some .ret)))::.obj n (.deferred (some []))::M1∧X S' M1) ?_ S _ W1 (Ac.Le.refl S) ⟨M0,rfl,hJ0⟩ (hst1.perm (Jz _ _ _ _))
  ·refine callsIn_wide.2 (Calls.mono goes ?_);rintro e W2 ⟨⟨v,rfl⟩,S2,M2,hS2,⟨⟨M1,rfl,hJ⟩,hst2⟩|⟨⟨M1,rfl,hX⟩,k,hk,hst2⟩⟩
   ·have hst2:=hst2.perm (Jz _ _ _ _).symm;have hl:W2.heap[n+1]? = some (.loop (rec .ready none)):=hst2.at_ _ (.head _);have hr:=run_endLoop (P:=P) hl (by rw [hrec];simp);rw [hrec] at hr;refine ⟨none,_,hr,hdone n S2 M1 _ hS2 hJ ?_⟩;exact (hst2.putObj (o':=.loop _)).drop
   ·have hst2:=hst2.perm (Jz _ _ _ _).symm;have hl:W2.heap[n+1]? = some (.loop (rec .done (some .ret))):=hst2.at_ _ (.head _);have hr:=run_endLoop (P:=P) hl (by rw [hrec];simp);rw [hrec] at hr;refine ⟨some .ret,_,hr,wpIn_ret (hstop n k S2 M1 _ hk hS2 hX ?_)⟩;exact (hst2.putObj (o':=.loop _)).drop
  ·rintro k hk vs hvs S' M C W hS' ⟨M1,rfl,hJ⟩ hW;have hW:=hW.perm (Sn (A k) M1 C _ _);have hl:W.heap[n+1]? = some (.loop (rec .ready none)):=hW.at_ _ (.head _);have hlen:=hps k vs hvs;have hy:=run_yield (P:=P) (args:=vs.toArray) hl (by rw [hrec];simpa using hlen);rw [hrec] at hy;refine ⟨fn,_,assign,body,hy,E4 (n:=0) (roundIn_of_wpIn hfn (hassign _ k vs S' _ W _ hk hvs hS' hW fun a' B W' hA hst0=>?_))⟩;have hst0':=hst0.perm (List.perm_middle (a:=.obj (n+1) (.loop (rec .ready none))) (l₁:=B));have hl':W'.heap[n+1]? = some (.loop (rec .ready none)):=hst0'.at_ _ (.head _);refine ⟨_,run_beginRound hl' (by rw [hrec]),?_⟩;have hst2:=(hst0'.putObj (o':=.loop { rec .ready none with state:=.busy })).perm (fI B (A k) M1 C _ _);refine wpIn_mono (hbody _ k a' B S' M1 _ _ hk hA hS' hJ hst2) ?_;rintro e a3 W3 (⟨rfl,hgo,S3,M3,hS3,hJ3,hst3⟩|⟨rfl,S3,M3,hS3,hX3,hst3⟩)
   ·have hst4:=hst3.perm (YO (A k) M3 C _ _);have hl3:W3.heap[n+1]? = some (.loop { rec .ready none with state:=.busy }):=hst4.at_ _ (.head _);have hr:=run_endRound (P:=P) none hl3;refine ⟨_,_,hr,.inl ⟨rfl,hgo,S3,_,hS3,⟨M3,rfl,hJ3⟩,?_⟩⟩;have:=(hst4.putObj (o':=.loop (rec .ready none))).perm (Sn (A k) M3 C _ _).symm;rw [hrec] at this ⊢;exact this
   ·have hst4:=hst3.perm (YO (A k) M3 C _ _);have hl3:W3.heap[n+1]? = some (.loop { rec .ready none with state:=.busy }):=hst4.at_ _ (.head _);have hr:=run_endRound (P:=P) (some .ret) hl3;refine ⟨_,_,hr,.inr ⟨rfl,S3,_,hS3,⟨M3,rfl,hX3⟩,?_⟩⟩;have:=(hst4.putObj (o':=.loop (rec .done (some .ret)))).perm (Sn (A k) M3 C _ _).symm;rw [hrec] at this ⊢;exact this
theorem Rd {Q:Exit→Act→World→Prop} (h:¬ LetsOut Q:=by with_unfolding_all (rintro ⟨a,w,h⟩;rcases h with ⟨h,_⟩|⟨h,_⟩<;>cases h)):¬ LetsOut Q:=h
theorem UE {fn:Func} {R:Ending→World→Prop} {l:List Value} {d:Nat} (hst:St S (.obj d (.deferred (some []))::M) w) (hr:fn.results = #[])
  (hR:∀ w',St S M w'→R (.returned (.tuple #[])) w'):bodyPostM Fence.wide 0 P fn R .ret ⟨l.toArray,[{ target:=.collected d,args:=#[] }]⟩ w:=by
 have hk:w.heap[d]? = some (.deferred (some [])):=hst.at_ _ (.head _);have hst':=(hst.putObj (o':=.deferred none)).drop;refine ⟨by simp,.inl ⟨d,_,rfl,run_takeDeferred hk,?_⟩⟩;refine ⟨.tuple #[],?_,hR _ hst'⟩;simp [results,hr]
theorem Vu {fn:Func} {R:Ending→World→Prop} {l:List Value} {d:Nat} (hst:St S (.obj d (.deferred (some []))::M) w) (hr:fn.results = #[])
  (hR:∀ w',St S M w'→R (.returned (.tuple #[])) w'):bodyPostM Fence.wide 0 P fn R .normal ⟨l.toArray,[{ target:=.collected d,args:=#[] }]⟩ w:=by
 have hk:w.heap[d]? = some (.deferred (some [])):=hst.at_ _ (.head _);have hst':=(hst.putObj (o':=.deferred none)).drop;refine ⟨by simp,.inl ⟨d,_,rfl,run_takeDeferred hk,?_⟩⟩;refine ⟨.tuple #[],?_,hR _ hst'⟩;simp [results,hr]
theorem Jd {F:Fence} {n l:Nat} {args:Array Value} {W:World} {A B:World→Prop} (h:YieldAt F n P l args W fun e W'=>(e=.returned (.bool true)∧A W')∨(e=.returned (.bool false)∧B W')) :
  YieldAt F n P l args W fun e W'=>∃ v,e=.returned v∧((v=.bool true∧A W')∨(v=.bool false∧B W')):=by
 obtain ⟨fn,tm,ac,bd,h1,h2⟩:=h;refine ⟨fn,tm,ac,bd,h1,h2.mono ?_⟩;rintro e W' (⟨h1,h2⟩|⟨h1,h2⟩)
 ·exact ⟨_,h1,.inl ⟨rfl,h2⟩⟩
 ·exact ⟨_,h1,.inr ⟨rfl,h2⟩⟩
theorem Qr {F:Fence} {n:Nat} {ops:Array Oper} {Q:Exit→Act→World→Prop} {rest:List Oper} {dst:Option Tmp} {op:Op} {ty:TypeId} {pos:String} {af:Array Edge} {g:Nat×Bool} {a:Act} (hg:yielded ops a.tmps g.1=some g.2)
  (h:wpListIn F n P ops Q (⟨dst,op,ty,pos,af,none⟩::rest) a w):wpListIn F n P ops Q (⟨dst,op,ty,pos,af,some g⟩::rest) a w:=by
 unfold wpListIn at h ⊢;rw [if_pos (by simp [Region.wanted,hg])];rw [if_pos (by simp [Region.wanted])] at h;exact h
theorem Ko {F:Fence} (hF:Wd F) {ops:Array Oper} {Q:Exit→Act→World→Prop} {l:List Value} {D:List Deferred} {rest:List Oper} {d:Tmp} {x:Operand} {xs:List Operand} {ats:Array TypeId} {ty:TypeId} {pos:String} {af:Array Edge} {r:Nat} {vs:List Value} {C:Value→World→Prop}
  (hx:Ai l x=.func (.yield r) #[] #[]) (ha:xs.map (Ai l)=vs) (hy:YieldAt Fence.wide 0 P r vs.toArray w fun e w'=>∃ v,e=.returned v∧C v w')
  (h:∀ v w',C v w'→wpListIn F 0 P ops Q rest ⟨(l.set d v).toArray,D⟩ w') :
  wpListIn F 0 P ops Q (⟨some d,.call { callee:=.value x,args:=xs.toArray,argTypes:=ats },ty,pos,af,none⟩::rest) ⟨l.toArray,D⟩ w:=by
 obtain ⟨fn,tmps,assign,body,hr,hR⟩:=hy;subst ha;refine wpListIn_plain rfl fun K hK=>⟨fun _ _=>hF.fn _,?_⟩
 have hrun:(execOp (Ai l) ⟨some d,.call { callee:=.value x,args:=xs.toArray,argTypes:=ats },ty,pos,af,none⟩).run P w=.ok (.round r fn tmps assign body) w:=by
  have e:Array.map (Ai l) xs.toArray=(xs.map (Ai l)).toArray:=by simp
  simp only [execOp,resolve,hx,Deferred.ofValue,Sem.run_bind,Sem.run_pure,Result.andThen_ok,invoke,e,Array.append_empty,Array.empty_append];exact hr
 rw [Oper.semAt_eq _ _ _ (by intro c;simp),CY,hrun];refine ⟨(fun h=>by rw [hF.depth] at h;cases h),?_⟩;have h2:=E4 (n:=0) (m:=0) (hR.mono (R':=fun e w'=>(∃ v,e=.returned v∧K ((⟨l.toArray,D⟩:Act).put (some d) v) w')) ?_)
 ·have h3:RoundIn F 0 P r fn tmps assign body w (fun e w'=>∃ v,e=.returned v∧K ((⟨l.toArray,D⟩:Act).put (some d) v) w'):=by rcases hF with rfl|⟨r0,rfl⟩<;>exact h2
  refine h3.mono ?_;rintro e w' ⟨v,rfl,hv⟩;exact hv
 ·rintro e w' ⟨v,rfl,hC⟩;refine ⟨v,rfl,hK _ _ ?_⟩;have:=h v w' hC
  simpa [Act.put] using this
theorem Vd {r0:Nat} {ops:Array Oper} {Q:Exit→Act→World→Prop} {l:List Value} {D:List Deferred} {rest:List Oper} {d:Tmp} {x:Operand} {xs:List Operand} {ats:Array TypeId} {ty:TypeId} {pos:String} {af:Array Edge} {r:Nat} {vs:List Value} {C:Value→World→Prop}
  (hx:Ai l x=.func (.yield r) #[] #[]) (ha:xs.map (Ai l)=vs) (hy:YieldAt Fence.wide 0 P r vs.toArray w fun e w'=>∃ v,e=.returned v∧C v w')
  (h:∀ v w',C v w'→wpListIn (Fence.wide.inRound r0) 0 P ops Q rest ⟨(l.set d v).toArray,D⟩ w') :
  wpListIn (Fence.wide.inRound r0) 0 P ops Q (⟨some d,.call { callee:=.value x,args:=xs.toArray,argTypes:=ats },ty,pos,af,none⟩::rest) ⟨l.toArray,D⟩ w:=Ko (.inr ⟨r0,rfl⟩) hx ha hy h
section
variable {F:Fence} {nn:Nat} {ops:Array Oper} {md:Region.Mode} {C:World→Prop} {Q:Exit→Act→World→Prop}
theorem ZC (hF:Wd F) {o:Oper} {a:Act} {v:Value} {K:Act→World→Prop} (hd:∀ c,o.op≠.defer c) (hw:C w) (hq:o.quietAt P a C w v) (hK:∀ w',C w'→K (a.put o.dst v) w'):o.wpIn F nn P a w K Q:=by
 refine ⟨fun f _=>hF.fn f,?_⟩;rw [Oper.semAt_eq _ _ _ hd];have hn:F.depth.isSome=true→1≤nn:=by rw [hF.depth];intro h;cases h
 unfold Oper.quietAt at hq;generalize (execOp a.eval o).run P w=r at hq ⊢
 cases r with
 | ok x w' =>
  cases x<;>simp only [Oper.quietUpon] at hq
  case value u=>obtain ⟨rfl,rfl⟩:=hq;exact hK _ hw
  case skip=>obtain ⟨rfl,rfl⟩:=hq;exact hK _ hw
  case enter f args =>
   obtain ⟨rfl,hc⟩:=hq;refine ⟨hn,hF.calls (Calls.mono hc fun e w'' he=>?_)⟩;obtain ⟨rfl,hC⟩:=he;exact hK _ hC
 | halt x w'=>simp only [Oper.quietUpon] at hq
theorem dn (hF:Wd F) (hd:DW ops.toList=true) {i:Nat} {rest:List Nat} {K:Act→Prop} {a:Act} (hw:C w) (hK:∀ a w,C w→K a→wpOpsIn F nn P ops Q rest a w) (h:qOp P ops C i K a):wpOpsIn F nn P ops Q (i::rest) a w:=by
 unfold wpOpsIn;unfold qOp at h
 cases ho:ops[i]? with
 | none=>rw [ho] at h;exact hK _ _ hw h
 | some o =>
  rw [ho] at h
  have hd1:∀ c,o.op≠.defer c:=fun c e=>by
   have:=List.all_eq_true.1 hd o (by rw [Array.mem_toList_iff];exact Array.mem_of_getElem? ho);simp only [e] at this;exact absurd this (by decide)
  simp only at h ⊢;by_cases hwt:Region.wanted o (yielded ops a.tmps)=true
  ·rw [if_pos hwt] at h ⊢;obtain ⟨v,h1,h2⟩:=h;exact ZC hF hd1 hw (h1 w hw) fun w' hw'=>hK _ _ hw' h2
  ·rw [if_neg hwt] at h ⊢;exact ⟨fun f _=>hF.fn f,hK _ _ hw h⟩
theorem Rq {f t:Nat} {d:Array Bool}:Region.linearise.go md ops (f+1) t d []=match (Region.ready md ops d)[t % (Region.ready md ops d).length]? with
  | some i=>i::Region.linearise.go md ops f (t / (Region.ready md ops d).length) (d.setIfInBounds i true) []
  | none=>[]:=by
 simp only [Region.linearise.go]
 change (match (Region.ready md ops d)[t % (Region.ready md ops d).length]? with
  | some i=>Region.linearise.go md ops f (t / (Region.ready md ops d).length) (d.setIfInBounds i true) [i]
  | none=>[].reverse)=_
 cases (Region.ready md ops d)[t % (Region.ready md ops d).length]? with
 | none=>rfl
 | some i=>simp only [];rw [linearise_go_acc];rfl
theorem Me {d:Array Bool} (hne:Region.ready md ops d≠[]) (t:Nat):∃ i,(Region.ready md ops d)[t % (Region.ready md ops d).length]? = some i∧i∈Region.ready md ops d:=by
 have hpos:0 < (Region.ready md ops d).length:=List.length_pos_iff.2 hne;have hlt:t % (Region.ready md ops d).length < (Region.ready md ops d).length:=Nat.mod_lt _ hpos;exact ⟨_,List.getElem?_eq_getElem hlt,List.getElem_mem hlt⟩
theorem Pw (hF:Wd F) (hd:DW ops.toList=true) {n g:Nat} {L:Array Bool→Act→Prop} (hL:∀ t d a w,C w→L d a→wpOpsIn F nn P ops Q (Region.linearise.go md ops g t d []) a w) :
  ∀ (f t:Nat) (d:Array Bool) (a:Act) (w:World),C w→KS P md ops C n L f d a→wpOpsIn F nn P ops Q (Region.linearise.go md ops (f+g) t d []) a w
 | 0,t,d,a,w,hw,h=>by rw [Nat.zero_add];exact hL _ _ _ _ hw h
 | f+1,t,d,a,w,hw,h=>by
  obtain ⟨i,hi,him⟩:=Me h.1 t;rw [show f+1+g=(f+g)+1 by omega,Rq,hi];exact dn hF hd hw (fun a w hw h=>Pw hF hd hL f _ _ a w hw h) (h.2 i him).2
theorem Um:∀ (l:List Oper) (k t:Nat) (d:Array Bool) (a:Act) (w:World),(∀ j,l[j]? = ops[k+j]?)→Region.seqB md ops l.length k d=true→wpListIn F nn P ops Q l a w→wpOpsIn F nn P ops Q (Region.linearise.go md ops l.length t d []) a w
 | [],_,_,_,_,_,_,_,h=>by simpa [Region.linearise.go,wpOpsIn,wpListIn] using h
 | o::l,k,t,d,a,w,hl,hB,h=>by
  have h0:ops[k]? = some o:=by simpa using (hl 0).symm
  simp only [List.length_cons,Region.seqB,Bool.and_eq_true,decide_eq_true_eq] at hB;obtain ⟨i,hi,him⟩:=Me (md:=md) (ops:=ops) (d:=d) (by rw [hB.1];simp) t;have hik:i=k:=by rw [hB.1] at him;simpa using him
  subst hik;rw [List.length_cons,Rq,hi]
  have IH:∀ t a w,wpListIn F nn P ops Q l a w→wpOpsIn F nn P ops Q (Region.linearise.go md ops l.length t (d.setIfInBounds i true) []) a w :=
   fun t a w=>Um l (i+1) t _ a w (fun j=>by have:=hl (j+1);simpa [Nat.add_assoc,Nat.add_comm 1 j] using this) hB.2
  unfold wpListIn at h;unfold wpOpsIn;rw [h0];simp only;split
  ·rename_i hw;rw [if_pos hw] at h;exact Oper.wpIn_mono (fun a w=>IH _ a w) h
  ·rename_i hw;rw [if_neg hw] at h;exact ⟨h.1,IH _ _ _ h.2⟩
end
theorem GW {F:Fence} (hF:Wd F) {nn id:Nat} {lo:List Oper} {Q:Exit→Act→World→Prop} {l:List Value} {D:List Deferred} (n:Nat) (hst:St S M w) (hm:P.follows .mixedOrders=true) (hd:DW lo=true) (hB:Region.lexTailB .any lo.toArray n=true)
  (h:wpQuiet P lo.toArray (St S M) (fun a'=>∀ w',St S M w'→wpListIn F nn P lo.toArray Q (lo.drop n) a' w') (lo.take n) ⟨l.toArray,D⟩):(Code.region id lo.toArray true).wpIn F nn P Q ⟨l.toArray,D⟩ w:=by
 simp only [Region.lexTailB,Bool.and_eq_true,decide_eq_true_eq] at hB;obtain ⟨⟨⟨⟨hsel,hn⟩,hs⟩,hc⟩,hlex⟩:=hB;have hn':n < lo.length:=by simpa using hn
 have htl:(lo.take n).length=n:=by simp;omega
 have inv:HeadInv .any lo.toArray n (Array.replicate lo.toArray.size false) :=
  ⟨by simp,fun j oj _ hl=>(by rw [getD_replicate_false] at hl;cases hl),fun t _ ht=>getD_in (by simpa using ht) (getD_replicate_false _ _)⟩
 have H:=Kq (md:=.any) (g:=lo.toArray.size - n) hsel hs hc hn (lo.take n) 0 _ _ (fun j hj=>by
  have hj':j < n:=by rw [htl] at hj;exact hj
  simp [hj']) (by simpa using htl) inv (by rw [htl];exact hlex) h
 refine wpIn_region_draw fun t=>?_
 simp only [Region.schedule,hm,Bool.true_or,if_true,Region.linearise]
 have K:=Pw (F:=F) (nn:=nn) (Q:=Q) hF (by simpa using hd) (g:=lo.toArray.size - n) (fun t d a' w' hw' hL=>by
  have:=Um (md:=.any) (F:=F) (nn:=nn) (Q:=Q) (lo.drop n) n t d a' w' (fun j=>by simp [List.getElem?_drop]) (by simpa using hL.1) (hL.2 w' hw')
  simpa using this) _ t _ _ _ (by have:=hst.drew;exact this) H
 rw [htl,show n+(lo.toArray.size - n)=lo.toArray.size by omega] at K;exact K
theorem JY {F:Fence} (hF:Wd F) {nn id:Nat} {lo:List Oper} {Q:Exit→Act→World→Prop} {l:List Value} {D:List Deferred} (hQ:¬ LetsOut Q) (hd:DW lo=true) (hst:St S M w) (hm:P.follows .mixedOrders=true) (h:let ops:=lo;Bt P ops Q ops.length S M (List.replicate ops.length false) l D) :
  (Code.region id lo.toArray true).wpIn F nn P Q ⟨l.toArray,D⟩ w:=by
 refine wpIn_mono (aO (Q:=NoPanic Q) hF (fun ⟨a,w,h⟩=>hQ ⟨a,w,h⟩) (by simpa using hd) hm ?_) NoPanic.imp;have:=LS _ _ _ _ _ _ _ h hst.drew
 simpa using this
section
variable {r nn:Nat} {ops:Array Oper} {Q:Exit→Act→World→Prop} {K:Act→World→Prop} {l:List Value} {D:List Deferred} {a:Act} {w:World} {id:Nat}
theorem Fy {lo:List Oper} (h:wpList P lo.toArray Q lo a w) (hQ:¬ LetsOut Q:=by with_unfolding_all (rintro ⟨a,w,h⟩;rcases h with ⟨h,_⟩|⟨h,_⟩<;>cases h)) (hd:DW lo=true:=by with_unfolding_all rfl):(Code.region id lo.toArray false).wpIn (Fence.wide.inRound r) nn P Q a w:=E7 (.inr ⟨r,rfl⟩) hQ hd h
theorem DX (h:Q .normal a w):wpList P ops Q [] a w:=h
theorem Gf (h:K a w):Exit.then K Q .normal a w:=h
theorem Ls (h:Q .ret a w):Exit.then K Q .ret a w:=h
theorem Wg (h:Q .normal a w):Exit.inBlock id Q .normal a w:=h
theorem JS (h:Q .ret a w):Exit.inBlock id Q .ret a w:=h
theorem FO {c:Operand} {x y:Code} (hc:Ai l c=.bool true) (h:x.wpIn (Fence.wide.inRound r) nn P Q ⟨l.toArray,D⟩ w):(Code.cond c x y).wpIn (Fence.wide.inRound r) nn P Q ⟨l.toArray,D⟩ w:=wpIn_cond_true (by rw [CY];exact hc) h
theorem LQ {c:Operand} {x y:Code} (hc:Ai l c=.bool false) (h:y.wpIn (Fence.wide.inRound r) nn P Q ⟨l.toArray,D⟩ w):(Code.cond c x y).wpIn (Fence.wide.inRound r) nn P Q ⟨l.toArray,D⟩ w:=wpIn_cond_false (by rw [CY];exact hc) h
theorem LP {c:Operand} {x y:Code} {t:Bool} (hc:Ai l c=.bool t) (h1:t=true→x.wpIn (Fence.wide.inRound r) nn P Q ⟨l.toArray,D⟩ w) (h2:t=false→y.wpIn (Fence.wide.inRound r) nn P Q ⟨l.toArray,D⟩ w):(Code.cond c x y).wpIn (Fence.wide.inRound r) nn P Q ⟨l.toArray,D⟩ w :=
 wpIn_cond_split (by rw [CY];exact hc) h1 h2
end
abbrev YT (S:Ac) (A:List Chunk) (go:Prop) (J X:MT) (C:List Chunk):Exit→Act→World→Prop:=fun e _ W' =>
 (e=.normal∧go∧∃ S'' M',S.Le S''∧J S'' M'∧St S'' (A++(M'++C)) W')∨(e=.ret∧∃ S'' M',S.Le S''∧X S'' M'∧St S'' (A++(M'++C)) W')
theorem Us {g:Operand} {p d id:Nat} {T:TypeId} {z:Nat} {zero:List Value} {bb:Nat} {ty1 ty2:TypeId} {pos1 pos2:String} {af1 af2:Array Edge} {body:Code} {Q:Exit→Act→World→Prop} {l:List Value} {D:List Deferred} {gf:FuncId} {lb:List Value} {N:Nat} {ok:Nat→List Value→Prop} {go:Nat→Prop} {A:Nat→List Chunk} (J:Nat→MT) (X:MT) {M0:List Chunk}
  (hst:St S (A 0++M0) w) (hJ0:J 0 S M0) (hg:Ai l g=.func (.func gf) #[] lb.toArray) (hb:Body P gf) (hit:GG P S gf lb N ok go A) (hT:Ty P T true z zero bb) (hps:∀ k vs,ok k vs→∃ cs:List Value,vs=[.agg cs.toArray]∧cs.length=z∧cs.all (·.oneCell')=true) (hp:p < l.length) (hd:d < l.length) (hne:p≠d)
  (hbody:∀ (r k b:Nat) (cs:List Value) (S':Ac) (M C:List Chunk) (W:World),k < N→ok k [.agg cs.toArray]→S.Le S'→J k S' M→St S' (.box b cs T::(A k++(M++C))) W→body.wpIn (Fence.wide.inRound r) 0 P (YT S' (A k) (go k) (J (k+1)) X C) ⟨((l.set p (.agg cs.toArray)).set d (.pointer (some ⟨b,0,none⟩))).toArray,[]⟩ W)
  (hdone:∀ (d:Nat) (S':Ac) (M:List Chunk) (W:World),S.Le S'→J N S' M→St S' (.obj d (.deferred (some []))::(A N++M)) W→Q .normal ⟨l.toArray,{ target:=.collected d,args:=#[] }::D⟩ W)
  (hstop:∀ (d k:Nat) (S':Ac) (M:List Chunk) (W:World),k < N→S.Le S'→X S' M→St S' (.obj d (.deferred (some []))::(A k++M)) W→Q .ret ⟨l.toArray,{ target:=.collected d,args:=#[] }::D⟩ W) :
  (Code.rangeFunc g #[p] (Code.region id #[⟨some d,.alloc T,ty1,pos1,af1,none⟩,⟨none,.store T (.tmp d) (.tmp p),ty2,pos2,af2,none⟩] false) body).wp P Q ⟨l.toArray,D⟩ w:=by
 refine ON J X hst hJ0 hg hb hit (fun k vs h=>by obtain ⟨cs,rfl,_⟩:=hps k vs h;rfl)
  (fun k a' B=>∃ (cs:List Value) (b:Nat),ok k [.agg cs.toArray]∧B=[.box b cs T]∧a'=⟨((l.set p (.agg cs.toArray)).set d (.pointer (some ⟨b,0,none⟩))).toArray,[]⟩) ?_ ?_ hdone hstop
 ·intro r k vs S' M W K hk hok hS' hst hK;obtain ⟨cs,rfl,hl,h1⟩:=hps k vs hok;have e:((#[p].zip [Value.agg cs.toArray].toArray).foldl (fun t (x:Tmp×Value)=>t.setIfInBounds x.1 x.2) l.toArray)=(l.set p (.agg cs.toArray)).toArray:=by simp
  show Code.wpIn _ _ _ _ _ { tmps:=(#[p].zip [Value.agg cs.toArray].toArray).foldl (fun t (x:Tmp×Value)=>t.setIfInBounds x.1 x.2) l.toArray,defers:=[] } W;rw [e];refine E7 (l:=[⟨some d,.alloc T,ty1,pos1,af1,none⟩,⟨none,.store T (.tmp d) (.tmp p),ty2,pos2,af2,none⟩]) (.inr ⟨r,rfl⟩) ?_ rfl ?_
  ·rintro ⟨a,w,h⟩;exact h
  ·refine Bv hst hT fun b w' hst'=>?_
   have e1:AX ((l.set p (Value.agg cs.toArray)).set d (.pointer (some ⟨b,0,none⟩))) d=.pointer (some ⟨b,0,none⟩):=by rw [Ek];simp [hd]
   have e2:AX ((l.set p (Value.agg cs.toArray)).set d (.pointer (some ⟨b,0,none⟩))) p=.agg cs.toArray:=by
    have hne':=Ne.symm hne;rw [Ek];simp [hp,hne']
   refine AB hst' (b:=b) (off:=0) e1 0 rfl hT e2 (cs:=cs) rfl hl h1 (by rw [hT.len_];omega) fun w2 hst2=>?_
   refine hK _ [.box b cs T] w2 ⟨cs,b,hok,rfl,rfl⟩ ?_;have hz:zero.length=z:=hT.len_;have e3:List.take 0 zero++cs++List.drop (0+z) zero=cs:=by rw [List.take_zero,List.nil_append,List.drop_of_length_le (by omega),List.append_nil]
   have:St S' (.box b (List.take 0 zero++cs++List.drop (0+z) zero) T::M) w2:=hst2;rw [e3] at this;exact this
 ·rintro r k a' B S' M C W hk ⟨cs,b,hok,rfl,rfl⟩ hS' hJ hst;exact hbody r k b cs S' M C W hk hok hS' hJ hst
theorem NO {g:Operand} {p p2 d d2 id id2:Nat} {T:TypeId} {z:Nat} {zero:List Value} {bb:Nat} {ty1 ty2 ty3:TypeId} {pos1 pos2 pos3:String} {af1 af2 af3:Array Edge} {body:Code} {Q:Exit→Act→World→Prop} {l:List Value} {D:List Deferred} {gf:FuncId} {lb:List Value} {N:Nat} {ok:Nat→List Value→Prop} {go:Nat→Prop} {A:Nat→List Chunk} (J:Nat→MT) (X:MT) {M0:List Chunk}
  (hst:St S (A 0++M0) w) (hJ0:J 0 S M0) (hg:Ai l g=.func (.func gf) #[] lb.toArray) (hb:Body P gf) (hit:GG P S gf lb N ok go A) (hT:Ty P T true z zero bb) (hps:∀ k vs,ok k vs→∃ (cs:List Value) (v:Value),vs=[.agg cs.toArray,v]∧cs.length=z∧cs.all (·.oneCell')=true) (hp:p < l.length) (hp2:p2 < l.length) (hd:d < l.length) (hne:p≠d) (hne2:p2≠d) (hnp:p≠p2)
  (hbody:∀ (r k b:Nat) (cs:List Value) (v:Value) (S':Ac) (M C:List Chunk) (W:World),k < N→ok k [.agg cs.toArray,v]→S.Le S'→J k S' M→St S' (.box b cs T::(A k++(M++C))) W→body.wpIn (Fence.wide.inRound r) 0 P (YT S' (A k) (go k) (J (k+1)) X C) ⟨((((l.set p (.agg cs.toArray)).set p2 v).set d (.pointer (some ⟨b,0,none⟩))).set d2 v).toArray,[]⟩ W)
  (hdone:∀ (d:Nat) (S':Ac) (M:List Chunk) (W:World),S.Le S'→J N S' M→St S' (.obj d (.deferred (some []))::(A N++M)) W→Q .normal ⟨l.toArray,{ target:=.collected d,args:=#[] }::D⟩ W)
  (hstop:∀ (d k:Nat) (S':Ac) (M:List Chunk) (W:World),k < N→S.Le S'→X S' M→St S' (.obj d (.deferred (some []))::(A k++M)) W→Q .ret ⟨l.toArray,{ target:=.collected d,args:=#[] }::D⟩ W) :
  (Code.rangeFunc g #[p,p2] (Code.seq (Code.region id #[⟨some d,.alloc T,ty1,pos1,af1,none⟩,⟨none,.store T (.tmp d) (.tmp p),ty2,pos2,af2,none⟩] false) (Code.region id2 #[⟨some d2,.assign (.tmp p2),ty3,pos3,af3,none⟩] false)) body).wp P Q ⟨l.toArray,D⟩ w:=by
 refine ON J X hst hJ0 hg hb hit (fun k vs h=>by obtain ⟨cs,v,rfl,_⟩:=hps k vs h;rfl)
  (fun k a' B=>∃ (cs:List Value) (v:Value) (b:Nat),ok k [.agg cs.toArray,v]∧B=[.box b cs T]∧a'=⟨((((l.set p (.agg cs.toArray)).set p2 v).set d (.pointer (some ⟨b,0,none⟩))).set d2 v).toArray,[]⟩) ?_ ?_ hdone hstop
 ·intro r k vs S' M W K hk hok hS' hst hK;obtain ⟨cs,v,rfl,hl,h1⟩:=hps k vs hok;have e:((#[p,p2].zip [Value.agg cs.toArray,v].toArray).foldl (fun t (x:Tmp×Value)=>t.setIfInBounds x.1 x.2) l.toArray)=((l.set p (.agg cs.toArray)).set p2 v).toArray:=by simp
  show Code.wpIn _ _ _ _ _ { tmps:=(#[p,p2].zip [Value.agg cs.toArray,v].toArray).foldl (fun t (x:Tmp×Value)=>t.setIfInBounds x.1 x.2) l.toArray,defers:=[] } W;rw [e];refine wpIn_seq (E7 (l:=[⟨some d,.alloc T,ty1,pos1,af1,none⟩,⟨none,.store T (.tmp d) (.tmp p),ty2,pos2,af2,none⟩]) (.inr ⟨r,rfl⟩) ?_ rfl ?_)
  ·rintro ⟨a,w,h⟩;exact h
  ·refine Bv hst hT fun b w' hst'=>?_
   have e1:AX (((l.set p (Value.agg cs.toArray)).set p2 v).set d (.pointer (some ⟨b,0,none⟩))) d=.pointer (some ⟨b,0,none⟩):=by rw [Ek];simp [hd]
   have e2:AX (((l.set p (Value.agg cs.toArray)).set p2 v).set d (.pointer (some ⟨b,0,none⟩))) p=.agg cs.toArray:=by
    have hne':=Ne.symm hne;have hnp':=Ne.symm hnp;rw [Ek];simp [hp,hne',hnp']
   have e4:AX (((l.set p (Value.agg cs.toArray)).set p2 v).set d (.pointer (some ⟨b,0,none⟩))) p2=v:=by
    have hne':=Ne.symm hne2;rw [Ek];simp [hp2,hne']
   refine AB hst' (b:=b) (off:=0) e1 0 rfl hT e2 (cs:=cs) rfl hl h1 (by rw [hT.len_];omega) fun w2 hst2=>?_
   refine E7 (l:=[⟨some d2,.assign (.tmp p2),ty3,pos3,af3,none⟩]) (.inr ⟨r,rfl⟩) ?_ rfl ?_
   ·rintro ⟨a,w,h⟩;exact h
   refine Bw (v:=v) (w':=w2) ?_ ?_
   ·simp [execOp,Ai,e4]
   refine hK _ [.box b cs T] w2 ⟨cs,v,b,hok,rfl,rfl⟩ ?_;have hz:zero.length=z:=hT.len_;have e3:List.take 0 zero++cs++List.drop (0+z) zero=cs:=by rw [List.take_zero,List.nil_append,List.drop_of_length_le (by omega),List.append_nil]
   have:St S' (.box b (List.take 0 zero++cs++List.drop (0+z) zero) T::M) w2:=hst2;rw [e3] at this;exact this
 ·rintro r k a' B S' M C W hk ⟨cs,v,b,hok,rfl,rfl⟩ hS' hJ hst;exact hbody r k b cs v S' M C W hk hok hS' hJ hst
variable {P:Program}
def BE {α:Type} [Rep α] (S:Ac):List MapEntry→List (α×Value)→Prop
 | [],[]=>True
 | e::es,kv::kvs=>(∃ cs,Rep.R S cs kv.1∧e.key=.agg cs.toArray∧e.val=kv.2)∧BE S es kvs
 | _,_=>False
theorem BE.mono {α:Type} [Rep α] {S S':Ac} (hS:S.Le S'):∀ {es:List MapEntry} {kvs:List (α×Value)},BE S es kvs→BE S' es kvs
 | [],[],_=>trivial
 | _::_,_::_,⟨⟨cs,h1,h2,h3⟩,h⟩=>⟨⟨cs,Rep.mono hS h1,h2,h3⟩,BE.mono hS h⟩
 | [],_::_,h=>h.elim
 | _::_,[],h=>h.elim
theorem BE.snoc {α:Type} [Rep α] {S:Ac} {e:MapEntry} {k:α} {v:Value} {cs:List Value} (hR:Rep.R S cs k) (hk:e.key=.agg cs.toArray) (hv:e.val=v):∀ {es:List MapEntry} {kvs:List (α×Value)},BE S es kvs→BE S (es++[e]) (kvs++[(k,v)])
 | [],[],_=>⟨⟨cs,hR,hk,hv⟩,trivial⟩
 | _::_,_::_,⟨h1,h⟩=>⟨h1,BE.snoc hR hk hv h⟩
 | [],_::_,h=>h.elim
 | _::_,[],h=>h.elim
def Bu {α:Type} [DecidableEq α] (kvs:List (α×Value)) (x:α):Option Value:=(kvs.find? fun kv=>decide (x=kv.1)).map (·.2)
section
variable {α:Type} [Rep α] [DecidableEq α] {T:TypeId} {d:Nat}
theorem Lw (hE:EqTy P T) (hz:P.cellsOf T=Rep.z α) (kk:Key P T α d) {S:Ac} {cs:List Value} {x:α} (hx:Rep.R S cs x) (w:World):∀ (es:List MapEntry) (kvs:List (α×Value)) (i:Nat),BE S es kvs →
  ∃ r,(Instr.findAsking T (.agg cs.toArray) es i).run P w=.ok r w∧r.map (·.2)=Bu kvs x
 | [],[],i,_=>⟨none,rfl,rfl⟩
 | e::es,kv::kvs,i,⟨⟨cs',h1,h2,h3⟩,h⟩=>by
  have he:=L9 hE hz kk hx h1 w;unfold Instr.findAsking;rw [Sem.run_bind,h2,show Op.equal T (.agg cs.toArray) (.agg cs'.toArray)=Op.equalIn 10000 T (.agg cs.toArray) (.agg cs'.toArray) from rfl,he];simp only [Result.andThen];by_cases hxe:x=kv.1
  ·refine ⟨some (i,e.val),by simp [hxe],?_⟩;simp [Bu,hxe,h3]
  ·obtain ⟨r,hr,hm⟩:=Lw hE hz kk hx w es kvs (i+1) h;refine ⟨r,by simpa [hxe] using hr,?_⟩;rw [hm];simp [Bu,hxe]
 | [],_::_,_,h=>h.elim
 | _::_,[],_,h=>h.elim
theorem Kt (hE:EqTy P T):(match P.underlying T with|some (.array _ _)|some (.struct _)=>true|_=>false)=true:=by
 have:=hE.a
 cases hu:P.underlying T with
 | none=>simp [hu] at this
 | some k=>cases k<;>simp_all
omit [DecidableEq α] in
theorem Jo (hE:EqTy P T) (hz:P.cellsOf T=Rep.z α) (kk:Key P T α d) {S:Ac} {cs:List Value} {x:α} (hx:Rep.R S cs x) (em:Bool) (w:World):(Instr.checkKey em 10000 T (.agg cs.toArray)).run P w=.ok () w:=by
 have ha:=hE.a;refine run_checkKey_deep (P:=P) em 9980 20 T hE.k w d _ (cs.map Fe) ?_ ?_
 ·have hl:=Rep.len hx
  cases hu:P.underlying T with
  | none=>simp [hu] at ha
  | some dd=>rw [hu] at ha;cases dd<;>simp_all [Value.formed]
 ·simpa [Value.cells] using kk.key d (Nat.le_refl _) hx
variable {U E:TypeId} {es:Array MapEntry} {kvs:List (α×Value)} {b clock:Nat}
theorem Sc (hU:P.underlying U=some (.map T E)) (hE:EqTy P T) (hz:P.cellsOf T=Rep.z α) (kk:Key P T α d) {aggE:Bool} {zE:Nat} {zero:List Value} {bb:Nat} (hT:Ty P E aggE zE zero bb) {S:Ac} {cs:List Value} {x:α} (hx:Rep.R S cs x) (hm:BE S es.toList kvs) (w:World) (hb:w.heap[b]? = some (.map es clock)) (ok:Bool) :
  (Instr.lookup U (.map (some b)) (.agg cs.toArray) ok).run P w=.ok (if ok then .tuple #[(Bu kvs x).getD (Dy aggE zero),.bool (Bu kvs x).isSome] else (Bu kvs x).getD (Dy aggE zero)) w:=by
 obtain ⟨r,hr,hrm⟩:=Lw hE hz kk hx w es.toList kvs 0 hm;have hc:=Jo hE hz kk hx es.isEmpty w;have hget:(getObj b).run P w=.ok (.map es clock) w:=by simp [getObj,Sem.run,hb]
 unfold Instr.lookup;simp only [Sem.run_bind,run_underlying hU,Result.andThen_ok,hget,hc,Sem.run_pure,run_findKey_eq w (Kt hE),hr];rw [← hrm]
 cases r with
 | none=>cases ok<;>simp [Sem.run_bind,hT.run_zero]
 | some p=>cases ok<;>simp
theorem Sb (hU:P.underlying U=some (.map T E)) (hE:EqTy P T) (hz:P.cellsOf T=Rep.z α) (kk:Key P T α d) {S:Ac} {cs:List Value} {x:α} (hx:Rep.R S cs x) (hm:BE S es.toList kvs) (w:World) (hb:w.heap[b]? = some (.map es clock)) (v:Value) (hn:Bu kvs x=none) :
  (Instr.mapUpdate U (.map (some b)) (.agg cs.toArray) v).run P w=.ok () (w.putObj b (.map (es.push { key:=.agg cs.toArray,val:=v,born:=clock }) (clock+1))):=by
 obtain ⟨r,hr,hrm⟩:=Lw hE hz kk hx w es.toList kvs 0 hm;have hc:=Jo hE hz kk hx false w;have hget:(getObj b).run P w=.ok (.map es clock) w:=by simp [getObj,Sem.run,hb]
 have hset:∀ o,(setObj b o).run P w=.ok () (w.putObj b o):=fun o=>by simp [setObj,Sem.run,hb,World.putObj]
 rw [hn] at hrm;have hr0:r=none:=by cases r<;>simp_all
 subst hr0;unfold Instr.mapUpdate;simp only [Sem.run_bind,run_underlying hU,Result.andThen_ok,hget,hc,Sem.run_pure,run_findKey_eq w (Kt hE),hr,hset]
end
class ObjIn (M:List Chunk) (b:Nat) (k:outParam Nat) (o:outParam Obj):Prop where
 h:M[k]? = some (.obj b o)
instance fL {M:List Chunk} {b:Nat} {o:Obj}:ObjIn (.obj b o::M) b 0 o:=⟨rfl⟩
instance fh {M:List Chunk} {c:Chunk} {b k:Nat} {o:Obj} [i:ObjIn M b k o]:ObjIn (c::M) b (k+1) o:=⟨by simpa using i.h⟩
class MapT (P:Program) (U:TypeId) (T E:outParam TypeId):Prop where
 u:P.underlying U=some (.map T E)
section
variable {ops:Array Oper} {rest:List Oper} {Q:Exit→Act→World→Prop} {l:List Value} {D:List Deferred} {w:World} {dd:Tmp} {ty:TypeId} {pos:String} {af:Array Edge} {S:Ac} {M:List Chunk} {α:Type} [Rep α] [DecidableEq α]
theorem J6 {U:TypeId} (hst:St S M w) (h:∀ b w',St S (.obj b (.map #[] 0)::M) w'→wpList P ops Q rest ⟨(l.set dd (.map (some b))).toArray,D⟩ w') :
  wpList P ops Q (⟨some dd,.makeMap U none,ty,pos,af,none⟩::rest) ⟨l.toArray,D⟩ w:=by
 refine Bw (v:=.map (some w.heap.size)) (w':=w.alloc (.map #[] 0)) ?_ (h _ _ (hst.allocObj _));simp only [execOp,Instr.makeMap];rfl
theorem Cn {U T E:TypeId} {d:Nat} {a i:Operand} {aggE:Bool} {zE:Nat} {zero:List Value} {bb b k clock:Nat} {es:Array MapEntry} {kvs:List (α×Value)} {cs:List Value} {x:α} (ha:Ai l a=.map (some b)) (hi:Ai l i=.agg cs.toArray) (hU:MapT P U T E) (hE:EqTy P T) (hz:P.cellsOf T=Rep.z α) (kk:Key P T α d) (hT:Ty P E aggE zE zero bb)
  (hM:ObjIn M b k (.map es clock)) (hm:BE S es.toList kvs) (hx:Rep.R S cs x) (ok:Bool) :
  Qt P l (.lookup U a i ok) S M (if ok then .tuple #[(Bu kvs x).getD (Dy aggE zero),.bool (Bu kvs x).isSome] else (Bu kvs x).getD (Dy aggE zero)):=fun dst ty pos af w hst=>by
 have hb:w.heap[b]? = some (.map es clock):=hst.get hM.h;simp only [execOp,ha,hi];have:=Sc hU.u hE hz kk hT hx hm w hb ok;simp [this]
theorem Gg {U T E:TypeId} {d:Nat} {a i v:Operand} {u:Value} {b k clock:Nat} {es:Array MapEntry} {kvs:List (α×Value)} {cs:List Value} {x:α} (hst:St S M w) (ha:Ai l a=.map (some b)) (hi:Ai l i=.agg cs.toArray) (hv:Ai l v=u) (hU:MapT P U T E) (hE:EqTy P T) (hz:P.cellsOf T=Rep.z α) (kk:Key P T α d)
  (hM:ObjIn M b k (.map es clock)) (hm:BE S es.toList kvs) (hx:Rep.R S cs x) (hn:Bu kvs x=none)
  (h:∀ es' w',BE S es'.toList (kvs++[(x,u)])→St S (M.set k (.obj b (.map es' (clock+1)))) w'→wpList P ops Q rest ⟨l.toArray,D⟩ w') :
  wpList P ops Q (⟨none,.mapUpdate U a i v,ty,pos,af,none⟩::rest) ⟨l.toArray,D⟩ w:=by
 have hb:w.heap[b]? = some (.map es clock):=hst.get hM.h;have hr:=Sb hU.u hE hz kk hx hm w hb u hn;refine Ii (w':=w.putObj b (.map (es.push { key:=.agg cs.toArray,val:=u,born:=clock }) (clock+1))) ?_ (h _ _ ?_ (St.back hM.h ((hst.move hM.h).putObj)))
 ·simp only [execOp,ha,hi,hv];simp [hr]
 ·rw [Array.toList_push];exact BE.snoc hx rfl rfl hm
end
variable {P:Program}
def Ec {α:Type} [DecidableEq α]:List (α×Value)→α→Value→List (α×Value)
 | [],_,_=>[]
 | kv::r,x,v=>if x=kv.1 then (kv.1,v)::r else kv::Ec r x v
section
variable {α:Type} [DecidableEq α]
theorem It (x:α):Bu [] x=none:=rfl
theorem CP (kv:α×Value) (r:List (α×Value)) (x:α):Bu (kv::r) x=if x=kv.1 then some kv.2 else Bu r x:=by
 unfold Bu;rw [List.find?_cons];by_cases h:x=kv.1
 ·rw [if_pos h,decide_eq_true h];rfl
 ·rw [if_neg h,decide_eq_false h]
theorem Lh (x y:α) (v:Value):∀ kvs:List (α×Value),Bu (Ec kvs x v) y=if y=x∧(Bu kvs x).isSome then some v else Bu kvs y
 | []=>by simp [Ec,It]
 | kv::r=>by
  rw [Ec,CP kv r x,CP kv r y];by_cases h:x=kv.1
  ·obtain ⟨k,v'⟩:=kv;simp only at h;subst h;rw [if_pos rfl,if_pos rfl,CP];by_cases hy:y=x
   ·simp [hy]
   ·simp [hy]
  ·rw [if_neg h,if_neg h,CP,Lh x y v r];by_cases hy:y=kv.1
   ·rw [if_pos hy,if_pos hy,if_neg];rintro ⟨e,_⟩;exact h (e.symm.trans hy)
   ·rw [if_neg hy,if_neg hy]
theorem Mr (x y:α) (v:Value):∀ kvs:List (α×Value),Bu (kvs++[(x,v)]) y=match Bu kvs y with|some u=>some u|none=>if y=x then some v else none
 | []=>by rw [List.nil_append,CP,It]
 | kv::r=>by
  rw [List.cons_append,CP,CP];by_cases h:y=kv.1
  ·rw [if_pos h,if_pos h]
  ·rw [if_neg h,if_neg h,Mr x y v r]
end
section
variable {α:Type} [Rep α] [DecidableEq α] {T:TypeId} {d:Nat}
omit [DecidableEq α] in
theorem BE.at_ {S:Ac}:∀ {es:List MapEntry} {kvs:List (α×Value)} {j:Nat} {kv:α×Value},BE S es kvs→kvs[j]? = some kv→∃ e cs,es[j]? = some e∧Rep.R S cs kv.1∧e.key=.agg cs.toArray∧e.val=kv.2
 | [],[],j,kv,_,h=>by simp at h
 | e::es,kv'::kvs,0,kv,⟨⟨cs,h1,h2,h3⟩,_⟩,h=>by
  simp only [List.getElem?_cons_zero,Option.some.injEq] at h;subst h;exact ⟨e,cs,rfl,h1,h2,h3⟩
 | e::es,kv'::kvs,j+1,kv,⟨_,hm⟩,h=>by
  simp only [List.getElem?_cons_succ] at h ⊢;exact hm.at_ h
 | [],_::_,_,_,h,_=>h.elim
 | _::_,[],_,_,h,_=>h.elim
omit [DecidableEq α] in
theorem BE.set {S:Ac} {e':MapEntry} {x:α} {v:Value} {cs:List Value} (hR:Rep.R S cs x) (hk:e'.key=.agg cs.toArray) (hv:e'.val=v):∀ {es:List MapEntry} {kvs:List (α×Value)} (j:Nat),BE S es kvs→BE S (es.set j e') (kvs.set j (x,v))
 | [],[],_,_=>trivial
 | _::_,_::_,0,⟨_,h⟩=>⟨⟨cs,hR,hk,hv⟩,h⟩
 | _::_,_::_,j+1,⟨h1,h⟩=>⟨h1,BE.set hR hk hv j h⟩
 | [],_::_,_,h=>h.elim
 | _::_,[],_,h=>h.elim
theorem NQ (hE:EqTy P T) (hz:P.cellsOf T=Rep.z α) (kk:Key P T α d) {S:Ac} {cs:List Value} {x:α} {v0:Value} (hx:Rep.R S cs x) (w:World):∀ (es:List MapEntry) (kvs:List (α×Value)) (i:Nat),BE S es kvs→Bu kvs x=some v0 →
  ∃ j,(Instr.findAsking T (.agg cs.toArray) es i).run P w=.ok (some (i+j,v0)) w∧kvs[j]? = some (x,v0)∧∀ u,Ec kvs x u=kvs.set j (x,u)
 | [],[],i,_,h=>by simp [It] at h
 | e::es,kv::kvs,i,⟨⟨cs',h1,h2,h3⟩,hm⟩,h=>by
  have he:=L9 hE hz kk hx h1 w;unfold Instr.findAsking;rw [Sem.run_bind,h2,show Op.equal T (.agg cs.toArray) (.agg cs'.toArray)=Op.equalIn 10000 T (.agg cs.toArray) (.agg cs'.toArray) from rfl,he];simp only [Result.andThen];rw [CP] at h;by_cases hxe:x=kv.1
  ·rw [if_pos hxe] at h;obtain rfl:=Option.some.inj h;refine ⟨0,by simp [hxe,h3],by rw [hxe];rfl,fun u=>by rw [Ec,if_pos hxe,hxe];rfl⟩
  ·rw [if_neg hxe] at h;obtain ⟨j,hr,hj,hs⟩:=NQ hE hz kk hx w es kvs (i+1) hm h;refine ⟨j+1,by simpa [hxe,Nat.add_assoc,Nat.add_comm 1 j] using hr,hj,fun u=>by rw [Ec,if_neg hxe,hs u];rfl⟩
 | [],_::_,_,h,_=>h.elim
 | _::_,[],_,h,_=>h.elim
variable {U E:TypeId} {es:Array MapEntry} {kvs:List (α×Value)} {b clock:Nat}
theorem Qh {cells:α→List Value} (hF:FlatC α cells) (hU:P.underlying U=some (.map T E)) (hE:EqTy P T) (hz:P.cellsOf T=Rep.z α) (kk:Key P T α d) {S:Ac} {x:α} (hx:Rep.R S (cells x) x) (hm:BE S es.toList kvs) (w:World) (hb:w.heap[b]? = some (.map es clock)) (v:Value) {v0:Value} (hn:Bu kvs x=some v0)
  (hsb:Instr.sameBits 10000 (.agg (cells x).toArray) (.agg (cells x).toArray)=true) :
  ∃ es',(Instr.mapUpdate U (.map (some b)) (.agg (cells x).toArray) v).run P w=.ok () (w.putObj b (.map es' clock))∧BE S es'.toList (Ec kvs x v):=by
 obtain ⟨j,hr,hj,hs⟩:=NQ hE hz kk hx w es.toList kvs 0 hm hn;rw [Nat.zero_add] at hr;have hc:=Jo hE hz kk hx false w;have hget:(getObj b).run P w=.ok (.map es clock) w:=by simp [getObj,Sem.run,hb]
 have hset:∀ o,(setObj b o).run P w=.ok () (w.putObj b o):=fun o=>by simp [setObj,Sem.run,hb,World.putObj]
 obtain ⟨e,cs',he,hR',hk',hv'⟩:=hm.at_ hj;have hcs:cs'=cells x:=hF.flat hR';subst hcs;have hea:es[j]? = some e:=by simpa using he
 refine ⟨es.modify j fun e=>{ e with key:=.agg (cells x).toArray,val:=v },?_,?_⟩
 ·unfold Instr.mapUpdate;simp only [Sem.run_bind,run_underlying hU,Result.andThen_ok,hget,hc,Sem.run_pure,run_findKey_eq w (Kt hE),hr,hset];rw [hea];simp only [Option.map_some,Option.getD_some,hk',Instr.keyThatStays,hsb,if_true,Sem.run_pure,Result.andThen_ok];exact hset _
 ·rw [hs v]
  have h1:(es.modify j fun e=>{ e with key:=.agg (cells x).toArray,val:=v }).toList=es.toList.set j { e with key:=.agg (cells x).toArray,val:=v }:=by
   rw [Array.toList_modify];apply List.ext_getElem?;intro i;rw [List.getElem?_modify,List.getElem?_set];by_cases hij:j=i
   ·subst hij;have hlt:j < es.toList.length:=(List.getElem?_eq_some_iff.1 he).1;rw [if_pos rfl,if_pos hlt,he];simp
   ·rw [if_neg hij]
    cases es.toList[i]?<;>simp [hij]
  rw [h1];exact BE.set hx rfl rfl j hm
end
section
variable {ops:Array Oper} {rest:List Oper} {Q:Exit→Act→World→Prop} {l:List Value} {D:List Deferred} {w:World} {dd:Tmp} {ty:TypeId} {pos:String} {af:Array Edge} {S:Ac} {M:List Chunk} {α:Type} [Rep α] [DecidableEq α]
theorem HG {U T E:TypeId} {d:Nat} {a i v:Operand} {u v0:Value} {b k clock:Nat} {es:Array MapEntry} {kvs:List (α×Value)} {cells:α→List Value} {x:α} (hst:St S M w) (ha:Ai l a=.map (some b)) (hi:Ai l i=.agg (cells x).toArray) (hv:Ai l v=u) (hF:FlatC α cells) (hU:MapT P U T E) (hE:EqTy P T) (hz:P.cellsOf T=Rep.z α) (kk:Key P T α d)
  (hM:ObjIn M b k (.map es clock)) (hm:BE S es.toList kvs) (hx:Rep.R S (cells x) x) (hn:Bu kvs x=some v0) (hsb:Instr.sameBits 10000 (.agg (cells x).toArray) (.agg (cells x).toArray)=true)
  (h:∀ es' w',BE S es'.toList (Ec kvs x u)→St S (M.set k (.obj b (.map es' clock))) w'→wpList P ops Q rest ⟨l.toArray,D⟩ w') :
  wpList P ops Q (⟨none,.mapUpdate U a i v,ty,pos,af,none⟩::rest) ⟨l.toArray,D⟩ w:=by
 have hb:w.heap[b]? = some (.map es clock):=hst.get hM.h;obtain ⟨es',hr,hm'⟩:=Qh hF hU.u hE hz kk hx hm w hb u hn hsb;refine Ii (w':=w.putObj b (.map es' clock)) ?_ (h _ _ hm' (St.back hM.h ((hst.move hM.h).putObj)));simp only [execOp,ha,hi,hv];simp [hr]
end
variable {P:Program} {S:Ac} {M:List Chunk} {l:List Value}
section
variable {P:Program} {ops:Array Oper} {rest:List Oper} {Q:Exit→Act→World→Prop} {l:List Value} {D:List Deferred} {w:World} {ty:TypeId} {pos:String} {af:Array Edge} {S:Ac} {M:List Chunk}
def iJ (v t:Value) (o m:Nat):Prop:=∃ g n cap cp,v=.slice (some ⟨g,0,none⟩) n cap∧t=.slice (some ⟨g,o,none⟩) m cp
theorem QY {T E F:TypeId} {x lo:Operand} {agg:Bool} {z:Nat} {zero:List Value} {bb:Nat} {v:Value} {k n a:Nat} {c:List Value} {kk:IntKind} (hst:St S M w) (hx:Ai l x=v) (hk:M[k]? = some (.sl v F z n c)) (hi:Ai l lo=.int kk (a:Int))
  (hT:SlT P T E) (hE:Ty P E agg z zero bb) (hn:a < n):∃ t,iJ v t (a * z) (n - a)∧Qt P l (.slice T x (some lo) none none) S M t:=by
 rcases (hst.get hk).2 with ⟨rfl,rfl⟩|⟨g,cap,cur,fz,rfl,hg,hfz,hnc,_⟩
 ·omega
 ·refine ⟨.slice (some ⟨g,a * z,none⟩) (n - a) (cap - a),⟨g,n,cap,_,rfl,rfl⟩,fun dst ty pos af w _=>?_⟩;simp only [execOp,hx,Sem.run_bind];rw [EP hT hE (lo:=(some lo).map (Ai l)) (hi:=(none:Option Operand).map (Ai l)) (mx:=(none:Option Operand).map (Ai l)) (a:=a) (b:=n) (m:=cap) (.inr ⟨kk,by simp [hi]⟩) (.inl ⟨rfl,rfl⟩) (.inl ⟨rfl,rfl⟩) (by omega) hnc (Nat.le_refl _) (by simp),if_neg (by omega)];simp [Addr.add_mid]
theorem ZL {F:TypeId} {v:Value} {g o k zz n n' cap':Nat} {c cs:List Value} (hst:St S M w) (hv:v=.slice (some ⟨g,0,none⟩) n' cap') (hk:M[k]? = some (.sl v F zz n c)) (hf:o+cs.length≤c.length) :
  St S (M.set k (.sl v F zz n (c.take o++cs++c.drop (o+cs.length)))) (w.setCells g o cs)∧(∀ j,j < cs.length→(w.cell? ⟨g,o+0+j,none⟩).isSome=true)∧(∀ j,j < cs.length→w.frozen? ⟨g,o+0+j,none⟩=false):=by
 subst hv;have hmv:=hst.move hk;have h0:=hst.get hk;rcases h0.2 with ⟨e,_⟩|⟨g',cap,cur,fz,e,hg,hfz,hnc,hcm,hcs,htk⟩
 ·cases e
 ·obtain ⟨hgg,hnn,hcc⟩:g=g'∧n'=n∧cap'=cap:=by simpa using e
  subst hgg;subst hcc;have hcl:=h0.1;have hcur:n * zz≤cur.size:=Nat.le_trans (Nat.mul_le_mul_right _ hnc) hcs;have hfit:o+cs.length≤cur.toList.length:=by simp;omega
  have hat:=Fq g F fz cs o w cur.toList (by simpa using hg) hfit;obtain ⟨e1,e2,e3⟩:=Eg g cs o w
  have hcell:∀ j,j < cs.length→(w.cell? ⟨g,o+0+j,none⟩).isSome=true:=fun j hj=>by
   have hlt:o+j < cur.size:=by simp at hfit;omega
   simp only [World.cell?,hg];simp [hlt]
  have hfro:∀ j,j < cs.length→w.frozen? ⟨g,o+0+j,none⟩=false:=fun j hj=>by
   have:=hfz (o+j) (by simp at hfit;omega);simp only [World.frozen?,hg]
   simpa using this
  refine ⟨St.back hk (hmv.set e1 e2 e3 ⟨?_,.inr ⟨g,cap',_,fz,by rw [hnn],hat,?_,hnc,hcm,?_,?_⟩⟩ (fun b hb=>.inl hb) (fun b _ hne=>Eh g cs _ w b (fun e=>hne (by simp [Chunk.own,Value.ownBlock,e])))),hcell,hfro⟩
  ·simp only [List.length_append,List.length_take,List.length_drop];omega
  ·intro j hj;refine hfz j ?_;simp only [List.size_toArray,List.length_append,List.length_take,List.length_drop,Array.length_toList] at hj hfit;omega
  ·simp only [List.size_toArray,List.length_append,List.length_take,List.length_drop,Array.length_toList] at hfit ⊢;omega
  ·rw [List.toList_toArray,← htk];have hlc:(cur.toList.take (n * zz)).length=n * zz:=by simp;omega
   rw [List.take_append,List.take_append];simp only [List.length_append,List.length_take,Array.length_toList] at hfit ⊢;have hmin:min o cur.size=o:=by omega
   rw [hmin,List.take_take,List.take_take,List.drop_take];have ho:o≤n * zz:=by omega
   rw [Nat.min_eq_left ho,Nat.min_eq_right ho];rw [List.take_of_length_le (show cs.length≤n * zz - o by omega)]
end
section
variable {P:Program} {ops:Array Oper} {rest:List Oper} {Q:Exit→Act→World→Prop} {l:List Value} {D:List Deferred} {w:World} {ty:TypeId} {pos:String} {af:Array Edge} {S:Ac} {M:List Chunk} {d:Tmp}
def ff (v u:Value) (q:Nat):Prop:=∃ g n cap cp,v=.slice (some ⟨g,0,none⟩) n cap∧u=.slice (some ⟨g,0,none⟩) q cp
theorem NU {T E F:TypeId} {x hh:Operand} {agg:Bool} {z:Nat} {zero:List Value} {bb:Nat} {v:Value} {k n b:Nat} {c:List Value} {kk:IntKind} (hst:St S M w) (hx:Ai l x=v) (hk:M[k]? = some (.sl v F z n c)) (hi:Ai l hh=.int kk (b:Int))
  (hT:SlT P T E) (hE:Ty P E agg z zero bb) (hn:b≤n) (h0:0 < n):∃ u,ff v u b∧Qt P l (.slice T x none (some hh) none) S M u:=by
 rcases (hst.get hk).2 with ⟨rfl,rfl⟩|⟨g,cap,cur,fz,rfl,hg,hfz,hnc,_⟩
 ·omega
 ·refine ⟨.slice (some ⟨g,0,none⟩) b cap,⟨g,n,cap,_,rfl,rfl⟩,fun dst ty pos af w _=>?_⟩;simp only [execOp,hx,Sem.run_bind];rw [EP hT hE (lo:=(none:Option Operand).map (Ai l)) (hi:=(some hh).map (Ai l)) (mx:=(none:Option Operand).map (Ai l)) (a:=0) (b:=b) (m:=cap) (.inl ⟨rfl,rfl⟩) (.inr ⟨kk,by simp [hi]⟩) (.inl ⟨rfl,rfl⟩) (by omega) (by omega) (Nat.le_refl _) (by simp)];rw [if_neg (by omega)];simp [Addr.add_mid]
theorem NP {x y:Operand} {k:Nat} {v t u:Value} {tT tx E F:TypeId} {agg:Bool} {z n o md q m:Nat} {zero c:List Value} {bb:Nat} (hst:St S M w) (hx:Ai l x=t) (hy:Ai l y=u) (hk:M[k]? = some (.sl v F z n c)) (ht:iJ v t (o * z) md) (hu:ff v u q)
  (hT:SlT P tT E) (hE:Ty P E agg z zero bb) (hone:∀ a∈c,a.oneCell'=true) (hmd:o+md=n) (hq:q≤n) (hm:m=min q md)
  (h:∀ w',St S (M.set k (.sl v F z n (c.take (o * z)++c.take (m * z)++c.drop (o * z+m * z)))) w'→wpList P ops Q rest ⟨(l.set d (.int .i64 m)).toArray,D⟩ w') :
  wpList P ops Q (⟨some d,.call { callee:=.builtin .copy,args:=#[x,y],argTypes:=#[tT,tx] },ty,pos,af,none⟩::rest) ⟨l.toArray,D⟩ w:=by
 obtain ⟨g,n',cap,cp,hv,rfl⟩:=ht;obtain ⟨g2,n2,cap2,cp2,hv2,rfl⟩:=hu;obtain rfl:g2=g:=by rw [hv] at hv2;injection hv2 with a;injection a with a;injection a with a;exact a.symm
 obtain ⟨i,hi,hiz,his,hib⟩:=hE.run_bytes;have h0:=hst.get hk;have hcl:c.length=n * z:=h0.1;have hsum:o * z+md * z=n * z:=by rw [← Nat.add_mul,hmd]
 have hmz:m * z≤md * z:=Nat.mul_le_mul_right _ (by omega);have hmq:m * z≤n * z:=Nat.mul_le_mul_right _ (by omega);have hlen:(c.take (m * z)).length=m * z:=by rw [List.length_take];omega
 obtain ⟨g1,g2',g3⟩:=ZL (o:=o * z) (cs:=c.take (m * z)) hst hv hk (by rw [hlen,hcl];omega);rw [hlen] at g1
 have hcell:∀ j a,(c.take (m * z))[j]? = some a→w.cell? ((⟨g2,0,none⟩:Addr).add j)=some a:=by
  intro j a ha;rw [List.getElem?_take] at ha;split at ha
  ·rcases h0.2 with ⟨e,_⟩|⟨g',cap',cur,fz,e,hg,hfz,hnc,hcm,hcs,htk⟩
   ·rw [hv] at e;cases e
   ·rw [hv] at e;obtain rfl:g2=g':=by injection e with a;injection a with a;injection a with a
    rw [Addr.add_mid,Nat.zero_add];simp only [World.cell?,hg];rw [← htk,List.getElem?_take] at ha;split at ha
    ·simpa using ha
    ·cases ha
  ·cases ha
 have hfc:=run_firstCells_some (P:=P) w z m ⟨g2,0,none⟩ q cp2 (c.take (m * z)) hlen hcell;have hrun:=run_storeCells_cells (P:=P) g2 (o * z) (c.take (m * z)) 0 w g2' g3 (fun a ha=>hone a (List.mem_of_mem_take ha));have hmin:Nat.min q md=m:=hm.symm;refine Bw (v:=.int .i64 m) (w':=w.setCells g2 (o * z) (c.take (m * z))) ?_ (h _ g1);simp only [Nat.add_zero] at hrun;simp [execOp,resolve,invoke,builtin,hx,hy,goInt,Builtin.copy_,run_underlying hT.u,sizeOf,typeInfo,hi,his,Builtin.lenOf,hmin,hfc,hrun]
end
end Go.Sl
namespace Go.Sl
open Go.ChangeShapes Go.Proofs.YtmmbidoldegemaaGreatDoor Go.RowKit Go.WideShapes
theorem JM {H:Type} {enc:TypeId×Value→H} {P:Program} (hl:laidOutB P=true) {W W':World} {sp:Nat→Bool}:∀ {ts:List TypeId} {vs:List Value} {ds:List (DataW H)} {ps:List MemPlace},
  (∀ t∈ts,P.readableRec t=true∧t < P.types.size)→DataW.TrodAll enc P W 0 (fun _=>true) true ts vs ds ps→(∀ p∈ps,W.sameAt W' p)→(∀ p∈ps,sp p.block=true) →
  DataW.TrodAll enc P W' 0 sp true ts vs ds ps
 | [],_,_,_,_,h,_,_=>by
  obtain ⟨rfl,rfl,rfl⟩:=trodAll_nil h;exact trodAll_mk0
 | t::ts,_,_,_,hr,h,h1,h2=>by
  obtain ⟨v,vs',d,ds',p,q,rfl,rfl,rfl,h0,r0⟩:=trodAll_cons h
  exact trodAll_cons_mk (WideElems.Trod_stays hl (hr t (.head _)).1 (hr t (.head _)).2 h0 (fun x hx=>h1 x (List.mem_append.2 (.inl hx))) (fun x hx=>h2 x (List.mem_append.2 (.inl hx))))
   (JM hl (fun t' ht'=>hr t' (.tail _ ht')) r0 (fun x hx=>h1 x (List.mem_append.2 (.inr hx))) (fun x hx=>h2 x (List.mem_append.2 (.inr hx))))
theorem XJ {H:Type} {enc:TypeId×Value→H} {P:Program} {f:Func} {s:ChangeSpec} {W W':World} {args:Array Value} {ds gs:List (DataW H)} {before:List MemPlace} {tb:TypeId} (hvars:s.vars=[])
  (hW:DataW.Whole enc P f.params.toList s.vars false W args.toList ds gs before) (hl:laidOutB P=true) (hr:∀ t∈f.params.toList,P.readableRec t=true∧t < P.types.size)
  (hres:f.resultTypes = #[tb]) (hb:P.underlying tb=some .bool) (hs1:(s.fn H ds).results=[.lit (.bool true)]) (hs2:(s.fn H ds).args=ds) (hs3:(s.fn H ds).vars=[]) (hB:Below W.heap.size W W') :
  s.post enc P f false true false false W args (.bool true) W':=by
 have hW':=hW;obtain ⟨p,q,hA,hV,rfl,hz,hn⟩:=hW;rw [hvars] at hV;obtain ⟨rfl,rfl⟩:=trodVars_none hV;have hlt:∀ x∈p++[],x.block < W.heap.size:=fun x hx=>by simpa using hW'.lt x hx
 have hsame:∀ x∈p,W.sameAt W' x:=fun x hx=>hB.same (hlt x (by simpa using hx))
 have hargs:∀ sp:Nat→Bool,(∀ x∈p++[],sp x.block=true)→DataW.TrodAll enc P W' 0 sp true f.params.toList args.toList (s.fn H (ds++[])).args p:=fun sp hsp=>by
  rw [List.append_nil,hs2];exact JM hl hr hA hsame (fun x hx=>hsp x (by simpa using hx))
 have hvs:∀ sp:Nat→Bool,DataW.TrodVars enc P W' sp s.vars (s.fn H (ds++[])).vars []:=fun sp=>by
  rw [List.append_nil,hvars,hs3];rfl
 have hress:∀ (b:Nat) (sp:Nat→Bool) (hd:Bool),DataW.TrodAll enc P W' b sp hd f.resultTypes.toList ((Value.bool true).resultList f.resultTypes.size) (s.fn H (ds++[])).results []:=fun b sp hd=>by
  rw [List.append_nil,hs1,hres];exact trodAll_cons_mk (shut_bool hb _) trodAll_mk0
 have hold:∀ x∈p++[],(fun b=>decide (b < W.heap.size)) x.block=true:=fun x hx=>by simpa using hlt x hx
 refine ⟨ds,[],p++[],[],p,[],hW',hress _ _ _,hargs _ hold,hvs _,World.keptBut_mono (fun x hx=>⟨hx,?_⟩) (hB.frame (·∈p++[])),fun _=>?_⟩
 ·exact Or.inr (by simpa using hx)
 ·refine ⟨ok_one hres rfl (okWide_bool_mk hb _),_,_,([]++p)++[],⟨[]++p,[],trodAll_append (hargs _ (fun _ _=>rfl)) (hress _ _ _),hvs _,rfl,?_,?_⟩,?_⟩
  ·intro b off hp;have hp':MemPlace.cell b off∈p++[]:=by simpa using hp
   have:=hlt _ hp';rw [hB.frozen (by simpa [MemPlace.block] using this)];exact hz b off hp'
  ·intro ha;cases ha
  ·intro x hx _
   simpa using hx
theorem O5 {H:Type} {enc:TypeId×Value→H} {P:Program} {W:World} {T:TypeId} {α:Type} [Rep α] [Siz α] [Opens P T α] {b0:Nat} {sp:Nat→Bool} {held:Bool} {v:Value} {d:DataW H} {p:List MemPlace} (h:DataW.Trod enc P W b0 sp held T v d p) :
  ∃ y:α,Rep.R (Da W) v.cells.toList y∧Siz.siz y≤Rows.uptoBulk d:=by
 obtain ⟨n,hn⟩:=h;exact Opens.opens hn
theorem Ud {H:Type} {ds:List (DataW H)} (hk:Rows.uptoSmall H ds=true):Rows.uptoBulkAll ds≤1048576:=by simpa [Rows.uptoSmall] using hk
end Go.Sl
namespace Go.Sl
open Go.RowKit
theorem nX {p q:Prop} (hq:q) (h:p=q:=by first|(simp only [List.set_cons_succ,List.set_cons_zero,As,Ap,List.drop_succ_cons,List.drop_zero,List.take_succ_cons,List.take_zero,A0,Int.toNat_zero,Int.reduceToNat,Nat.mul_one,Nat.zero_add,Nat.add_zero,Nat.reduceMul,Nat.reduceAdd,Nat.zero_mul,Int.reduceSub,Int.reduceAdd,Int.reduceMul,Int.reduceNeg,Bool.not_true,Bool.not_false];exact rfl)|exact rfl):p:=h.symm▸hq
theorem nY {p q:Prop} (hq:q) (h:p=q:=by first|(simp only [Int.toNat_natCast,List.set_cons_succ,List.set_cons_zero,As,Ap,List.drop_succ_cons,List.drop_zero,List.take_succ_cons,List.take_zero,A0,Int.toNat_zero,Int.reduceToNat,Nat.mul_one,Nat.zero_add,Nat.add_zero,Nat.reduceMul,Nat.reduceAdd,Nat.zero_mul,Int.reduceSub,Int.reduceAdd,Int.reduceMul,Int.reduceNeg,Bool.not_true,Bool.not_false];exact rfl)|exact rfl):p:=h.symm▸hq
theorem nH {p q:Prop} (hp:p) (h:p=q:=by first|(simp only [List.set_cons_succ,List.set_cons_zero,List.drop_succ_cons,List.drop_zero,List.take_succ_cons,List.take_zero,List.nil_append,List.cons_append,List.append_nil,Value.cells,List.eraseIdx_cons_zero,List.eraseIdx_cons_succ,Nat.zero_add,Nat.add_zero,List.flatten_cons,List.flatten_nil,List.map_cons,List.map_nil];exact rfl)|exact rfl):q:=h▸hp
structure Kp (R:Prop):Prop where
 o:R
theorem kC:type_of% @k_call:=@k_call
theorem kL:type_of% @k_load:=@k_load
theorem kB:type_of% @k_bin:=@k_bin
theorem kF:type_of% @k_field:=@k_field
theorem kI:type_of% @k_index:=@k_index
theorem kU:type_of% @Ri:=@Ri
theorem kV:type_of% @U9:=@U9
theorem kX:type_of% @Po:=@Po
theorem kS:type_of% @k_store:=@k_store
theorem kr {α:Sort _} {a b:α} (h:a=b:=by kernel_rfl):a=b:=h
theorem gX {G:Prop} (k:False:=by simp only [decide_eq_true_eq,decide_eq_false_iff_not,Bool.not_false,Bool.not_true,beq_iff_eq,beq_eq_false_iff_ne,ne_eq] at hg;omega):G:=k.elim
theorem gN {p q:Prop} (hp:p) (h:p=q:=by first|(simp only [decide_eq_true_eq,decide_eq_false_iff_not,Bool.not_false,Bool.not_true,beq_iff_eq,beq_eq_false_iff_ne,bne_iff_ne,bne_eq_false_iff_eq,ne_eq];exact rfl)|exact rfl):q:=h▸hp
theorem sc {P:Program} {ops:Array Oper} {Q:Exit→Act→World→Prop} {rest:List Oper} {D:List Deferred} {l:List Value} {w:World} {ty:TypeId} {pos:String} {af:Array Edge} {f:FuncId} {xs:List Operand} {ats:Array TypeId} {args:List Value} {dd:Option Tmp} {post:Value→World→Prop} {G:Prop} (c:Ad P f args w post) (h:G) (hb:Body P f:=by infer_instance) (ha:xs.map (Ai l)=args:=by rfl)
  (e:(∀ v w',post v w'→wpList P ops Q rest ⟨(A0 l dd v).toArray,D⟩ w')=G:=by first|(simp only [Int.toNat_natCast,List.set_cons_succ,List.set_cons_zero,As,Ap,List.drop_succ_cons,List.drop_zero,List.take_succ_cons,List.take_zero,A0,Int.toNat_zero,Int.reduceToNat,Nat.mul_one,Nat.zero_add,Nat.add_zero,Nat.reduceMul,Nat.reduceAdd,Nat.zero_mul,Int.reduceSub,Int.reduceAdd,Int.reduceMul,Int.reduceNeg,Bool.not_true,Bool.not_false];exact rfl)|exact rfl):wpList P ops Q (⟨dd,.call { callee:=.value (.func f),args:=xs.toArray,argTypes:=ats },ty,pos,af,none⟩::rest) ⟨l.toArray,D⟩ w:=B9 c hb ha (e.symm▸h)
theorem kA {P:Program} {ops:Array Oper} {Q:Exit→Act→World→Prop} {rest:List Oper} {dd:Option Tmp} {T ty:TypeId} {pos:String} {af:Array Edge} {g:Option (Nat×Bool)} {a:Act} {w:World} (h:wpList P ops Q (⟨dd,.alloc T,ty,pos,af,g⟩::rest) a w):wpList P ops Q (⟨dd,.alloc T,ty,pos,af,g⟩::rest) a w:=h
theorem kO {P:Program} {ops:Array Oper} {Q:Exit→Act→World→Prop} {rest:List Oper} {dd:Option Tmp} {T ty:TypeId} {x:Operand} {pos:String} {af:Array Edge} {g:Option (Nat×Bool)} {a:Act} {w:World} (h:wpList P ops Q (⟨dd,.box T x,ty,pos,af,g⟩::rest) a w):wpList P ops Q (⟨dd,.box T x,ty,pos,af,g⟩::rest) a w:=h
theorem Lg {p q:Prop} (_:Unit) (h:p=q:=by first|(simp only [List.set_cons_succ,List.set_cons_zero,As,Ap,List.drop_succ_cons,List.drop_zero,List.take_succ_cons,List.take_zero,A0,Int.toNat_zero,Int.reduceToNat,Nat.mul_one,Nat.zero_add,Nat.add_zero,Nat.reduceMul,Nat.reduceAdd,Nat.zero_mul,Int.reduceSub,Int.reduceAdd,Int.reduceMul,Int.reduceNeg,Bool.not_true,Bool.not_false];exact rfl)|exact rfl) (hq:q):p:=h.symm▸hq
theorem Lf {p q:Prop} (_:Unit) (h:p=q:=by first|(simp only [Int.toNat_natCast,List.set_cons_succ,List.set_cons_zero,As,Ap,List.drop_succ_cons,List.drop_zero,List.take_succ_cons,List.take_zero,A0,Int.toNat_zero,Int.reduceToNat,Nat.mul_one,Nat.zero_add,Nat.add_zero,Nat.reduceMul,Nat.reduceAdd,Nat.zero_mul,Int.reduceSub,Int.reduceAdd,Int.reduceMul,Int.reduceNeg,Bool.not_true,Bool.not_false];exact rfl)|exact rfl) (hq:q):p:=h.symm▸hq
theorem nZ {p q:Prop} (_:Unit) (k:Kp q→p:=by intro hK;(try simp only [Int.toNat_natCast,List.set_cons_succ,List.set_cons_zero,As,Ap,List.drop_succ_cons,List.drop_zero,List.take_succ_cons,List.take_zero,A0,Int.toNat_zero,Int.reduceToNat,Nat.mul_one,Nat.zero_add,Nat.add_zero,Nat.reduceMul,Nat.reduceAdd,Nat.zero_mul,Int.reduceSub,Int.reduceAdd,Int.reduceMul,Int.reduceNeg,Bool.not_true,Bool.not_false]);exact (hK.o:)) (h:q):p:=k ⟨h⟩
theorem kc {G:Prop} (_:Unit) (k:Kp G→G:=by intro hK;with_reducible refine Sl.k_call ?_;exact (hK.o:)) (h:G):G:=k ⟨h⟩
theorem gK {G:Prop} (_:Unit) (k:Kp G→G:=by intro hK;first|((fail_if_success (go_big_may));exact (hK.o:))|(with_reducible refine Sl.gate rfl ?_;exact (hK.o:))|fail) (h:G):G:=k ⟨h⟩
theorem sK {G R:Prop} (_:Unit) (k:Kp R→G:=by intro hK;first|((with_reducible refine Sl.k_bin ?_;refine Ag hst (by first|exact C6 rfl rfl Ak|exact Ez rfl rfl Ak|exact FD rfl rfl Ak|exact DG rfl rfl Ak|exact Xg rfl rfl Ak|exact Xf rfl rfl Ak) ?_);(try apply Lf ());exact (hK.o:))|fail) (h:R):G:=k ⟨h⟩
theorem sG {G R:Prop} (_:Unit) (k:Kp R→G:=by intro hK;first|((with_reducible refine Sl.k_guard ?_;(first|(refine Sl.guard_yes rfl ?_)|(refine Sl.guard_no rfl ?_)));(try apply Lf ());exact (hK.o:))|fail) (h:R):G:=k ⟨h⟩
theorem sX {G R:Prop} (_:Unit) (k:Kp R→G:=by
 intro hK;first
 | (with_reducible refine Sl.k_load ?_;refine Ag hst (by exact AM rfl _ BoxIn.h Aa rfl rfl) ?_);(try apply Lg ());exact (hK.o:)
 | (with_reducible refine Sl.k_field ?_;refine Ag hst (Fa rfl Aa) ?_);(try apply Lg ());exact (hK.o:)
 | (with_reducible refine Sl.k_call ?_;refine Ag hst (by first|exact Ei Ab Ak Aa|exact G6 Ab SlIn.h Aa) ?_);(try apply Lg ());exact (hK.o:)
 | fail) (h:R):G:=k ⟨h⟩
theorem sY {G R:Prop} (_:Unit) (k:Kp R→G:=by
 intro hK;first
 | (with_reducible refine Sl.k_load ?_;refine Ag hst (by exact AM rfl _ BoxIn.h Aa rfl rfl) ?_);(try apply Lf ());exact (hK.o:)
 | (with_reducible refine Sl.k_field ?_;refine Ag hst (Fa rfl Aa) ?_);(try apply Lf ());exact (hK.o:)
 | (with_reducible refine Sl.k_call ?_;refine Ag hst (by first|exact Ei Ab Ak Aa|exact G6 Ab SlIn.h Aa) ?_);(try apply Lf ());exact (hK.o:)
 | fail) (h:R):G:=k ⟨h⟩
theorem sP {G R:Prop} (_:Unit) (k:Kp R→G:=by intro hK;first|(with_reducible refine Sl.k_load ?_;refine Ag hst (by exact Bp Ab Ak Aa Aa rfl) ?_;(try apply Lf ());exact (hK.o:))|fail) (h:R):G:=k ⟨h⟩
theorem sS {G R:Prop} (_:Unit) (k:Kp R→G:=by intro hK;first|(with_reducible refine Sl.k_store ?_;refine AB hst rfl _ BoxIn.h Aa Ab rfl A6 A5 (by simp) ?_;intro w hst;(try apply Lg ());(try replace hst:=nH hst);revert w;exact (hK.o:))|fail) (h:R):G:=k ⟨h⟩
theorem sT {G R:Prop} (_:Unit) (k:Kp R→G:=by intro hK;first|(with_reducible refine Sl.k_store ?_;refine AB hst rfl _ BoxIn.h Aa Ab rfl A6 A5 (by simp) ?_;intro w hst;(try apply Lf ());(try replace hst:=nH hst);revert w;exact (hK.o:))|fail) (h:R):G:=k ⟨h⟩
theorem sB {G R:Prop} (_:Unit) (k:Kp R→G:=by intro hK;first|(with_reducible refine kO ?_;refine Fi hst Ab rfl ?_;intro bx w hst;(try apply Lg ());(try replace hst:=nH hst);revert bx w;exact (hK.o:))|fail) (h:R):G:=k ⟨h⟩
theorem sA {G R:Prop} (_:Unit) (k:Kp R→G:=by intro hK;first|(with_reducible refine kA ?_;refine Bv hst Aa ?_;intro bx w hst;(try apply Lg ());(try replace hst:=nH hst);revert bx w;exact (hK.o:))|fail) (h:R):G:=k ⟨h⟩
theorem sC {G R:Prop} (_:Unit) (k:Kp R→G:=by intro hK;first|(with_reducible refine kO ?_;refine Fi hst Ab rfl ?_;intro bx w hst;(try apply Lf ());(try replace hst:=nH hst);revert bx w;exact (hK.o:))|fail) (h:R):G:=k ⟨h⟩
theorem sZ {G R:Prop} (_:Unit) (k:Kp R→G:=by intro hK;first|(with_reducible refine kA ?_;refine Bv hst Aa ?_;intro bx w hst;(try apply Lf ());(try replace hst:=nH hst);revert bx w;exact (hK.o:))|fail) (h:R):G:=k ⟨h⟩
theorem sI {G R:Prop} (_:Unit) (k:Kp R→G:=by intro hK;first|((first|(with_reducible refine Sl.k_index ?_;refine An hst (Ao Ab Ak rfl Aa Aa Af Af) ?_)|(with_reducible refine Sl.k_field ?_;refine An hst (Ah Ab Ak Aa Aa rfl) ?_));rintro v hp;(try simp only [Int.toNat_natCast,Int.toNat_natCast_add_one,Int.reduceToNat] at hp);(try apply Lg ());revert v;exact (hK.o:))|fail) (h:R):G:=k ⟨h⟩
theorem sJ {G R:Prop} (_:Unit) (k:Kp R→G:=by intro hK;first|((first|(with_reducible refine Sl.k_index ?_;refine An hst (Ao Ab Ak rfl Aa Aa Af Af) ?_)|(with_reducible refine Sl.k_field ?_;refine An hst (Ah Ab Ak Aa Aa rfl) ?_));rintro v hp;(try simp only [Int.toNat_natCast,Int.toNat_natCast_add_one,Int.reduceToNat] at hp);(try apply Lf ());revert v;exact (hK.o:))|fail) (h:R):G:=k ⟨h⟩
theorem sN {G R:Prop} (_:Unit) (k:Kp R→G:=by intro hK;first|(with_reducible refine Sl.k_load ?_;refine An hst (Am Ab Ak Aa) ?_;rintro v ⟨rfl,hI⟩;(try apply Lg ());revert hI;exact (hK.o:))|fail) (h:R):G:=k ⟨h⟩
theorem sD {G R:Prop} (_:Unit) (k:Kp R→G:=by intro hK;first|(with_reducible refine Sl.k_load ?_;refine An hst (Av Ab Ak Aa) ?_;rintro v ⟨cl,rfl,hcl⟩;(try apply Lg ());revert cl;exact (hK.o:))|fail) (h:R):G:=k ⟨h⟩
theorem sL {G R:Prop} (_:Unit) (k:Kp R→G:=by intro hK;first|(with_reducible refine Sl.k_load ?_;refine An hst (Ae Ab Ak Aa) ?_;rintro v ⟨hvl,hv1⟩;(try apply Lg ());revert v;exact (hK.o:))|fail) (h:R):G:=k ⟨h⟩
theorem Z0 {G R:Prop} (_:Unit) (k:Kp R→G:=by (fail_if_success (with_reducible show _→Code.wp _ (Code.region 0 _ _) _ _ _));exact Kp.o) (h:R):G:=k ⟨h⟩
theorem Z1 {G R:Prop} (_:Unit) (k:Kp R→G:=by (fail_if_success (with_reducible show _→Code.wp _ (Code.region 1 _ _) _ _ _));exact Kp.o) (h:R):G:=k ⟨h⟩
theorem Z2 {G R:Prop} (_:Unit) (k:Kp R→G:=by (fail_if_success (with_reducible show _→Code.wp _ (Code.region 2 _ _) _ _ _));exact Kp.o) (h:R):G:=k ⟨h⟩
theorem Z3 {G R:Prop} (_:Unit) (k:Kp R→G:=by (fail_if_success (with_reducible show _→Code.wp _ (Code.region 3 _ _) _ _ _));exact Kp.o) (h:R):G:=k ⟨h⟩
theorem Z4 {G R:Prop} (_:Unit) (k:Kp R→G:=by (fail_if_success (with_reducible show _→Code.wp _ (Code.region 4 _ _) _ _ _));exact Kp.o) (h:R):G:=k ⟨h⟩
theorem Z5 {G R:Prop} (_:Unit) (k:Kp R→G:=by (fail_if_success (with_reducible show _→Code.wp _ (Code.region 5 _ _) _ _ _));exact Kp.o) (h:R):G:=k ⟨h⟩
theorem Z6 {G R:Prop} (_:Unit) (k:Kp R→G:=by (fail_if_success (with_reducible show _→Code.wp _ (Code.region 6 _ _) _ _ _));exact Kp.o) (h:R):G:=k ⟨h⟩
theorem Z7 {G R:Prop} (_:Unit) (k:Kp R→G:=by (fail_if_success (with_reducible show _→Code.wp _ (Code.region 7 _ _) _ _ _));exact Kp.o) (h:R):G:=k ⟨h⟩
theorem Z8 {G R:Prop} (_:Unit) (k:Kp R→G:=by (fail_if_success (with_reducible show _→Code.wp _ (Code.region 8 _ _) _ _ _));exact Kp.o) (h:R):G:=k ⟨h⟩
theorem Z9 {G R:Prop} (_:Unit) (k:Kp R→G:=by (fail_if_success (with_reducible show _→Code.wp _ (Code.region 9 _ _) _ _ _));exact Kp.o) (h:R):G:=k ⟨h⟩
theorem V8 {G R:Prop} (_:Unit) (k:Kp R→G:=by (fail_if_success (with_reducible show _→Code.wp _ (Code.region 10 _ _) _ _ _));exact Kp.o) (h:R):G:=k ⟨h⟩
theorem MO {G R:Prop} (_:Unit) (k:Kp R→G:=by (fail_if_success (with_reducible show _→Code.wp _ (Code.region 11 _ _) _ _ _));exact Kp.o) (h:R):G:=k ⟨h⟩
theorem V7 {G R:Prop} (_:Unit) (k:Kp R→G:=by (fail_if_success (with_reducible show _→Code.wp _ (Code.region 12 _ _) _ _ _));exact Kp.o) (h:R):G:=k ⟨h⟩
theorem V6 {G R:Prop} (_:Unit) (k:Kp R→G:=by (fail_if_success (with_reducible show _→Code.wp _ (Code.region 13 _ _) _ _ _));exact Kp.o) (h:R):G:=k ⟨h⟩
theorem fd {G R:Prop} (_:Unit) (k:Kp R→G:=by (fail_if_success (with_reducible show _→Code.wp _ (Code.region 14 _ _) _ _ _));exact Kp.o) (h:R):G:=k ⟨h⟩
theorem Lr {G R:Prop} (_:Unit) (k:Kp R→G:=by (fail_if_success (with_reducible show _→Code.wp _ (Code.region 15 _ _) _ _ _));exact Kp.o) (h:R):G:=k ⟨h⟩
theorem P4 {G R:Prop} (_:Unit) (k:Kp R→G:=by (fail_if_success (with_reducible show _→Code.wp _ (Code.region 16 _ _) _ _ _));exact Kp.o) (h:R):G:=k ⟨h⟩
theorem KB {G R:Prop} (_:Unit) (k:Kp R→G:=by (fail_if_success (with_reducible show _→Code.wp _ (Code.region 17 _ _) _ _ _));exact Kp.o) (h:R):G:=k ⟨h⟩
theorem iI {G R:Prop} (_:Unit) (k:Kp R→G:=by (fail_if_success (with_reducible show _→Code.wp _ (Code.region 18 _ _) _ _ _));exact Kp.o) (h:R):G:=k ⟨h⟩
theorem RJ {G R:Prop} (_:Unit) (k:Kp R→G:=by (fail_if_success (with_reducible show _→Code.wp _ (Code.region 19 _ _) _ _ _));exact Kp.o) (h:R):G:=k ⟨h⟩
theorem P3 {G R:Prop} (_:Unit) (k:Kp R→G:=by (fail_if_success (with_reducible show _→Code.wp _ (Code.region 20 _ _) _ _ _));exact Kp.o) (h:R):G:=k ⟨h⟩
theorem YY {G R:Prop} (_:Unit) (k:Kp R→G:=by (fail_if_success (with_reducible show _→Code.wp _ (Code.region 21 _ _) _ _ _));exact Kp.o) (h:R):G:=k ⟨h⟩
theorem Oj {G R:Prop} (_:Unit) (k:Kp R→G:=by (fail_if_success (with_reducible show _→Code.wp _ (Code.region 22 _ _) _ _ _));exact Kp.o) (h:R):G:=k ⟨h⟩
theorem lH {G R:Prop} (_:Unit) (k:Kp R→G:=by (fail_if_success (with_reducible show _→Code.wp _ (Code.region 23 _ _) _ _ _));exact Kp.o) (h:R):G:=k ⟨h⟩
theorem iH {G R:Prop} (_:Unit) (k:Kp R→G:=by (fail_if_success (with_reducible show _→Code.wp _ (Code.region 24 _ _) _ _ _));exact Kp.o) (h:R):G:=k ⟨h⟩
theorem lG {G R:Prop} (_:Unit) (k:Kp R→G:=by (fail_if_success (with_reducible show _→Code.wp _ (Code.region 26 _ _) _ _ _));exact Kp.o) (h:R):G:=k ⟨h⟩
theorem lF {G R:Prop} (_:Unit) (k:Kp R→G:=by (fail_if_success (with_reducible show _→Code.wp _ (Code.region 30 _ _) _ _ _));exact Kp.o) (h:R):G:=k ⟨h⟩
theorem fc {G R:Prop} (_:Unit) (k:Kp R→G:=by (fail_if_success (with_reducible show _→Code.wp _ (Code.region 32 _ _) _ _ _));exact Kp.o) (h:R):G:=k ⟨h⟩
theorem iG {G R:Prop} (_:Unit) (k:Kp R→G:=by (fail_if_success (with_reducible show _→Code.wp _ (Code.region 35 _ _) _ _ _));exact Kp.o) (h:R):G:=k ⟨h⟩
theorem iF {G R:Prop} (_:Unit) (k:Kp R→G:=by (fail_if_success (with_reducible show _→Code.wp _ (Code.region 41 _ _) _ _ _));exact Kp.o) (h:R):G:=k ⟨h⟩
theorem YW {G R:Prop} (_:Unit) (k:Kp R→G:=by (fail_if_success (with_reducible show _→Code.wp _ (Code.region 43 _ _) _ _ _));exact Kp.o) (h:R):G:=k ⟨h⟩
theorem iN {p q:Prop} (hp:p) (h:p=q:=by first|(simp only [Int.toNat_natCast,Int.toNat_natCast_add_one,Int.reduceToNat];exact rfl)|exact rfl):q:=h▸hp
section
variable {P:Program} {lo:List Oper} {Q:Exit→Act→World→Prop} {K:Act→World→Prop} {S S0:Ac} {M:List Chunk} {l:List Value} {D:List Deferred} {w:World} {bs:List Bool} {f:Nat} {o:Oper} {v:Value} {G:Prop}
theorem pt (k:Nat) (ho:lo[k]? = some o) (hq:Qt P l o.op S0 [] v) (h:G) (hQ:EN Q:=by repeat (first|with_reducible refine Gy ?_|with_reducible refine F0 ?_|exact Gz)) (hs:Region.noSelect lo.toArray=true:=by kernel_rfl) (hf:Region.free .any lo.toArray bs.toArray k=true:=by kernel_rfl) (hr:(Region.ready .any lo.toArray bs.toArray).contains k=true:=by kernel_rfl)
  (hw:Region.wanted o (yielded lo.toArray l.toArray)=true:=by rfl) (hc:St S0 [] w:=by exact St.cls hSS hst) (e:Dx P lo Q S0 f (bs.set k true) (A0 l o.dst v) D w=G:=by first|(simp only [Int.toNat_natCast,List.set_cons_succ,List.set_cons_zero,As,Ap,List.drop_succ_cons,List.drop_zero,List.take_succ_cons,List.take_zero,A0,Int.toNat_zero,Int.reduceToNat,Nat.mul_one,Nat.zero_add,Nat.add_zero,Nat.reduceMul,Nat.reduceAdd,Nat.zero_mul,Int.reduceSub,Int.reduceAdd,Int.reduceMul,Int.reduceNeg,Bool.not_true,Bool.not_false];exact rfl)|exact rfl):Dx P lo Q S0 (f+1) bs l D w:=M9 k hQ ho hs hf hr hw hc hq (e.symm▸h)
theorem pd (k:Nat) (ho:lo[k]? = some o) (h:G) (hq:Qt P l o.op S0 [] v:=by first|exact C4 Ab|exact NW Ab|exact Mh rfl rfl|exact AM rfl _ BoxIn.h Aa rfl rfl|exact Fa rfl Aa|exact In rfl Ab|exact GL rfl Ab|exact OW rfl|exact Ei Ab Ak Aa) (hQ:EN Q:=by repeat (first|with_reducible refine Gy ?_|with_reducible refine F0 ?_|exact Gz)) (hs:Region.noSelect lo.toArray=true:=by kernel_rfl) (hf:Region.free .any lo.toArray bs.toArray k=true:=by kernel_rfl) (hr:(Region.ready .any lo.toArray bs.toArray).contains k=true:=by kernel_rfl)
  (hw:Region.wanted o (yielded lo.toArray l.toArray)=true:=by rfl) (hc:St S0 [] w:=by exact St.cls hSS hst) (e:Dx P lo Q S0 f (bs.set k true) (A0 l o.dst v) D w=G:=by first|(simp only [Int.toNat_natCast,List.set_cons_succ,List.set_cons_zero,As,Ap,List.drop_succ_cons,List.drop_zero,List.take_succ_cons,List.take_zero,A0,Int.toNat_zero,Int.reduceToNat,Nat.mul_one,Nat.zero_add,Nat.add_zero,Nat.reduceMul,Nat.reduceAdd,Nat.zero_mul,Int.reduceSub,Int.reduceAdd,Int.reduceMul,Int.reduceNeg,Bool.not_true,Bool.not_false];exact rfl)|exact rfl):Dx P lo Q S0 (f+1) bs l D w:=M9 k hQ ho hs hf hr hw hc hq (e.symm▸h)
theorem px (k:Nat) {F:Value→Prop} (ho:lo[k]? = some o) (hq:∃ v,F v∧Qt P l o.op S0 [] v) (h:G) (hQ:EN Q:=by repeat (first|with_reducible refine Gy ?_|with_reducible refine F0 ?_|exact Gz)) (hs:Region.noSelect lo.toArray=true:=by kernel_rfl) (hf:Region.free .any lo.toArray bs.toArray k=true:=by kernel_rfl) (hr:(Region.ready .any lo.toArray bs.toArray).contains k=true:=by kernel_rfl)
  (hw:Region.wanted o (yielded lo.toArray l.toArray)=true:=by rfl) (hc:St S0 [] w:=by exact St.cls hSS hst) (e:(∀ v,F v→Dx P lo Q S0 f (bs.set k true) (A0 l o.dst v) D w)=G:=by first|(simp only [Int.toNat_natCast,List.set_cons_succ,List.set_cons_zero,As,Ap,List.drop_succ_cons,List.drop_zero,List.take_succ_cons,List.take_zero,A0,Int.toNat_zero,Int.reduceToNat,Nat.mul_one,Nat.zero_add,Nat.add_zero,Nat.reduceMul,Nat.reduceAdd,Nat.zero_mul,Int.reduceSub,Int.reduceAdd,Int.reduceMul,Int.reduceNeg,Bool.not_true,Bool.not_false];exact rfl)|exact rfl):Dx P lo Q S0 (f+1) bs l D w:=Xi k hQ ho hs hf hr hw hc hq (e.symm▸h)
theorem pz (k:Nat) (ho:lo[k]? = some o) (h:G) (hQ:EN Q:=by repeat (first|with_reducible refine Gy ?_|with_reducible refine F0 ?_|exact Gz)) (hs:Region.noSelect lo.toArray=true:=by kernel_rfl) (hf:Region.free .any lo.toArray bs.toArray k=true:=by kernel_rfl) (hr:(Region.ready .any lo.toArray bs.toArray).contains k=true:=by kernel_rfl)
  (hw:Region.wanted o (yielded lo.toArray l.toArray)=false:=by rfl) (hc:St S0 [] w:=by exact St.cls hSS hst) (e:Dx P lo Q S0 f (bs.set k true) (A0 l o.dst undef) D w=G:=by first|(simp only [Int.toNat_natCast,List.set_cons_succ,List.set_cons_zero,As,Ap,List.drop_succ_cons,List.drop_zero,List.take_succ_cons,List.take_zero,A0,Int.toNat_zero,Int.reduceToNat,Nat.mul_one,Nat.zero_add,Nat.add_zero,Nat.reduceMul,Nat.reduceAdd,Nat.zero_mul,Int.reduceSub,Int.reduceAdd,Int.reduceMul,Int.reduceNeg,Bool.not_true,Bool.not_false];exact rfl)|exact rfl):Dx P lo Q S0 (f+1) bs l D w:=UM k hQ ho hs hf hr hw hc (e.symm▸h)
theorem po (k:Nat) (ho:lo[k]? = some o) (h:∀ K,GF P lo Q S0 f (bs.set k true) K→wpList P lo.toArray (Exit.then K Q) [o] ⟨l.toArray,D⟩ w) (hr:Region.ready .any lo.toArray bs.toArray=[k]:=by kernel_rfl):Dx P lo Q S0 (f+1) bs l D w:=dq k ho hr h
theorem pn {ops:Array Oper} {Q':Exit→Act→World→Prop} (hK:GF P lo Q S0 f bs K) (h:G) (hc:St S0 [] w:=by exact St.cls hSS hst) (e:Dx P lo Q S0 f bs l D w=G:=by first|(simp only [Int.toNat_natCast,List.set_cons_succ,List.set_cons_zero,As,Ap,List.drop_succ_cons,List.drop_zero,List.take_succ_cons,List.take_zero,A0,Int.toNat_zero,Int.reduceToNat,Nat.mul_one,Nat.zero_add,Nat.add_zero,Nat.reduceMul,Nat.reduceAdd,Nat.zero_mul,Int.reduceSub,Int.reduceAdd,Int.reduceMul,Int.reduceNeg,Bool.not_true,Bool.not_false];exact rfl)|exact rfl):wpList P ops (Exit.then K Q') [] ⟨l.toArray,D⟩ w:=ZF hK hc (e.symm▸h)
theorem tq (k:Nat) (ho:lo[k]? = some o) (hq:Qt P l o.op S M v) (h:G) (hok:EI lo bs k=true:=by kernel_rfl) (hns:DH o=false:=by rfl) (hw:Region.wanted o (yielded lo.toArray l.toArray)=true:=by rfl)
  (e:Bt P lo Q f S M (bs.set k true) (A0 l o.dst v) D=G:=by first|(simp only [Int.toNat_natCast,List.set_cons_succ,List.set_cons_zero,As,Ap,List.drop_succ_cons,List.drop_zero,List.take_succ_cons,List.take_zero,A0,Int.toNat_zero,Int.reduceToNat,Nat.mul_one,Nat.zero_add,Nat.add_zero,Nat.reduceMul,Nat.reduceAdd,Nat.zero_mul,Int.reduceSub,Int.reduceAdd,Int.reduceMul,Int.reduceNeg,Bool.not_true,Bool.not_false];exact rfl)|exact rfl):Bt P lo Q (f+1) S M bs l D:=RY k ho hok hns hw hq (e.symm▸h)
theorem td (k:Nat) (ho:lo[k]? = some o) (h:G) (hq:Qt P l o.op S M v:=by first|exact C4 Ab|exact NW Ab|exact Mh rfl rfl|exact AM rfl _ BoxIn.h Aa rfl rfl|exact Fa rfl Aa|exact In rfl Ab|exact GL rfl Ab|exact OW rfl|exact Ei Ab Ak Aa) (hok:EI lo bs k=true:=by kernel_rfl) (hns:DH o=false:=by rfl) (hw:Region.wanted o (yielded lo.toArray l.toArray)=true:=by rfl)
  (e:Bt P lo Q f S M (bs.set k true) (A0 l o.dst v) D=G:=by first|(simp only [Int.toNat_natCast,List.set_cons_succ,List.set_cons_zero,As,Ap,List.drop_succ_cons,List.drop_zero,List.take_succ_cons,List.take_zero,A0,Int.toNat_zero,Int.reduceToNat,Nat.mul_one,Nat.zero_add,Nat.add_zero,Nat.reduceMul,Nat.reduceAdd,Nat.zero_mul,Int.reduceSub,Int.reduceAdd,Int.reduceMul,Int.reduceNeg,Bool.not_true,Bool.not_false];exact rfl)|exact rfl):Bt P lo Q (f+1) S M bs l D:=RY k ho hok hns hw hq (e.symm▸h)
theorem tx (k:Nat) {F:Value→Prop} (ho:lo[k]? = some o) (hq:∃ v,F v∧Qt P l o.op S M v) (h:G) (hok:EI lo bs k=true:=by kernel_rfl) (hns:DH o=false:=by rfl) (hw:Region.wanted o (yielded lo.toArray l.toArray)=true:=by rfl)
  (e:(∀ v,F v→Bt P lo Q f S M (bs.set k true) (A0 l o.dst v) D)=G:=by first|(simp only [Int.toNat_natCast,List.set_cons_succ,List.set_cons_zero,As,Ap,List.drop_succ_cons,List.drop_zero,List.take_succ_cons,List.take_zero,A0,Int.toNat_zero,Int.reduceToNat,Nat.mul_one,Nat.zero_add,Nat.add_zero,Nat.reduceMul,Nat.reduceAdd,Nat.zero_mul,Int.reduceSub,Int.reduceAdd,Int.reduceMul,Int.reduceNeg,Bool.not_true,Bool.not_false];exact rfl)|exact rfl):Bt P lo Q (f+1) S M bs l D:=fq k ho hok hns hw hq (e.symm▸h)
theorem tz (k:Nat) (ho:lo[k]? = some o) (h:G) (hok:EI lo bs k=true:=by kernel_rfl) (hns:DH o=false:=by rfl) (hw:Region.wanted o (yielded lo.toArray l.toArray)=false:=by rfl)
  (e:Bt P lo Q f S M (bs.set k true) (A0 l o.dst undef) D=G:=by first|(simp only [Int.toNat_natCast,List.set_cons_succ,List.set_cons_zero,As,Ap,List.drop_succ_cons,List.drop_zero,List.take_succ_cons,List.take_zero,A0,Int.toNat_zero,Int.reduceToNat,Nat.mul_one,Nat.zero_add,Nat.add_zero,Nat.reduceMul,Nat.reduceAdd,Nat.zero_mul,Int.reduceSub,Int.reduceAdd,Int.reduceMul,Int.reduceNeg,Bool.not_true,Bool.not_false];exact rfl)|exact rfl):Bt P lo Q (f+1) S M bs l D:=iV k ho hok hns hw (e.symm▸h)
end
end Go.Sl
